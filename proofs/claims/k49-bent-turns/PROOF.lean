import PyProof.Rows.All
import Wide.All
import OpenK.AllK
import Wide.FinOn
import HandS.ForMost
import HandS.Wide
import HandS.IsInst
import HandS.TupMul
import HandS.TupAny
import HandS.Conv
import HandS.WideBits
import HandS.Style
import HandS.Deep
import HandS.RevTup
import HandS.Zip
import HandS.Walk
import HandS.Exc
import HandS.EndBits
import HandS.Defaults
import HandS.Head0
import HandS.Head1
import HandS.Head2
import HandS.HeadEnd
import HandS.HeadHook1
import HandS.HeadHook2
import PySem.Challenge.RW_roundrows_k49_whole_bent_turns
set_option Elab.async false
set_option linter.all false
set_option maxRecDepth 100000
set_option maxHeartbeats 0
set_option exponentiation.threshold 4000
namespace Rr
open PySem PySem.Spec L2

/-! values: `lst true` is a list that one slot alone holds, `lst false` one that nobody changes any more -/
inductive D where
  | non
  | bl (b : Bool)
  | int (i : Int)
  | str (s : Str)
  | tup (xs : List D)
  | lst (o : Bool) (xs : List D)
  | dct (o : Bool) (ks vs : List D)
  /-- the script -/
  | scr (ns : List Int)

namespace D
def isOwn : D → Bool
  | .lst true _ => true
  | .dct true _ _ => true
  | _ => false
mutual
def fz : D → D
  | .lst true xs => .lst false (fzA xs)
  | .dct true ks vs => .dct false ks (fzA vs)
  | d => d
def fzA : List D → List D
  | [] => []
  | x :: xs => fz x :: fzA xs
end
theorem fzA_map : ∀ xs : List D, fzA xs = xs.map fz
  | [] => rfl
  | x :: xs => by rw [fzA, fzA_map xs, List.map_cons]
theorem fz_of_not {d : D} (h : d.isOwn = false) : d.fz = d := by
  cases d with
  | lst o xs => cases o with
    | true => cases h
    | false => simp only [fz]
  | dct o ks vs => cases o with
    | true => cases h
    | false => simp only [fz]
  | _ => simp only [fz]
theorem fz_not (d : D) : d.fz.isOwn = false := by
  cases d with
  | lst o xs => cases o <;> simp only [fz] <;> rfl
  | dct o ks vs => cases o <;> simp only [fz] <;> rfl
  | _ => simp only [fz] <;> rfl
end D

abbrev Rho := List (Option D)

/-! what stands where -/
def KLst (K : PySem.W.Frag) (a : Addr) (xs : List V) : Prop :=
  ∃ (o : Obj) (its : Array Value) (n : Nat), K.lookup a = some o ∧ o.cls = .type "list" ∧ o.dict = none ∧ o.data = .seq its n ∧ its.size ≤ sizeLine ∧ Vals xs its.toList
def ScL (K : PySem.W.Frag) (H : Hp) (a : Addr) (xs : List V) : Prop := (∃ o, H a = some (.frz o (.lst xs))) ∨ KLst K a xs
theorem ScL.sq {K : PySem.W.Frag} {H : Hp} {a : Addr} {xs : List V} (h : ScL K H a xs) : SqL K H a xs := by
  rcases h with h | h
  · exact .inl (.inr h)
  · exact .inr h

mutual
inductive Rep (K : PySem.W.Frag) (H : Hp) (O : List Addr) : V → D → List Addr → Prop
  | non : Rep K H O .non .non []
  | bl (b : Bool) : Rep K H O (.bl b) (.bl b) []
  | int (i : Int) : Rep K H O (.int i) (.int i) []
  | str (s : Str) : Rep K H O (.str s) (.str s) []
  | scr {a : Addr} {ns : List Int} : ScL K H a (ns.map V.int) → Rep K H O (.ref a) (.scr ns) []
  | tup {a : Addr} {vs : List V} {ds : List D} : H a = some (.tup vs) → RepA K H O vs ds [] → Rep K H O (.ref a) (.tup ds) []
  | fr {a : Addr} {vs : List V} {ds : List D} : H a = some (.lst vs) → a ∉ O → RepA K H O vs ds [] → Rep K H O (.ref a) (.lst false ds) []
  | ow {a : Addr} {vs : List V} {ds : List D} {os : List Addr} : H a = some (.lst vs) → RepA K H O vs ds os → Rep K H O (.ref a) (.lst true ds) (a :: os)
inductive RepA (K : PySem.W.Frag) (H : Hp) (O : List Addr) : List V → List D → List Addr → Prop
  | nil : RepA K H O [] [] []
  | cons {v : V} {vs : List V} {d : D} {ds : List D} {os os' : List Addr} : Rep K H O v d os → RepA K H O vs ds os' → RepA K H O (v :: vs) (d :: ds) (os ++ os')
end

section
variable {K : PySem.W.Frag} {H H' : Hp} {O O' cs : List Addr}

theorem RepA.length : ∀ {vs : List V} {ds : List D} {os : List Addr}, RepA K H O vs ds os → vs.length = ds.length
  | _, _, _, .nil => rfl
  | _, _, _, .cons _ t => by rw [List.length_cons, List.length_cons, RepA.length t]
theorem nil_of_app {α : Type} {a b : List α} (h : a ++ b = []) : a = [] ∧ b = [] := List.append_eq_nil_iff.mp h
theorem Rep.nown {v : V} {d : D} {os : List Addr} (r : Rep K H O v d os) (h : d.isOwn = false) : os = [] := by
  cases r with
  | ow _ _ => cases h
  | _ => rfl
mutual
theorem Rep.mut : ∀ {v : V} {d : D} {os : List Addr}, Rep K H O v d os → ∀ a ∈ os, Mut (H a)
  | _, _, _, .non, _, h => nomatch h
  | _, _, _, .bl _, _, h => nomatch h
  | _, _, _, .int _, _, h => nomatch h
  | _, _, _, .str _, _, h => nomatch h
  | _, _, _, .scr _, _, h => nomatch h
  | _, _, _, .tup _ _, _, h => nomatch h
  | _, _, _, .fr _ _ _, _, h => nomatch h
  | _, _, _, .ow h r, a, m => by
    rcases List.mem_cons.mp m with rfl | m
    · rw [h]; trivial
    · exact RepA.mut r a m
theorem RepA.mut : ∀ {vs : List V} {ds : List D} {os : List Addr}, RepA K H O vs ds os → ∀ a ∈ os, Mut (H a)
  | _, _, _, .nil, _, h => nomatch h
  | _, _, _, .cons r t, a, m => (List.mem_append.mp m).elim (Rep.mut r a) (RepA.mut t a)
end
/-- all but the lists at cs is kept; what is owned later was owned, or is new -/
structure Kp (H : Hp) (O cs : List Addr) (H' : Hp) (O' : List Addr) : Prop where
  keep : ∀ a, H a ≠ none → a ∉ cs → H' a = H a
  sub : ∀ a ∈ O', a ∈ O ∨ H a = none
  mu : ∀ a ∈ cs, a ∈ O ∧ Mut (H a)
theorem Kp.tup (k : Kp H O cs H' O') {a : Addr} {vs : List V} (h : H a = some (.tup vs)) : H' a = some (.tup vs) := by
  rw [k.keep a (by rw [h]; simp) fun m => by have := (k.mu a m).2; rw [h] at this; exact this, h]
theorem Kp.scl (k : Kp H O cs H' O') {a : Addr} {vs : List V} (h : ScL K H a vs) : ScL K H' a vs := by
  rcases h with ⟨o, h⟩ | h
  · refine .inl ⟨o, ?_⟩
    rw [k.keep a (by rw [h]; simp) fun m => by have := (k.mu a m).2; rw [h] at this; exact this, h]
  · exact .inr h
theorem Kp.lst (k : Kp H O cs H' O') {a : Addr} {vs : List V} (h : H a = some (.lst vs)) (hO : a ∉ O) : H' a = some (.lst vs) ∧ a ∉ O' := by
  refine ⟨by rw [k.keep a (by rw [h]; simp) fun m => hO (k.mu a m).1, h], fun m => ?_⟩
  rcases k.sub a m with q | q
  · exact hO q
  · rw [h] at q; cases q
mutual
theorem Rep.keep (k : Kp H O cs H' O') : ∀ {v : V} {d : D} {os : List Addr}, Rep K H O v d os → (∀ a ∈ os, a ∉ cs) → Rep K H' O' v d os
  | _, _, _, .non, _ => .non
  | _, _, _, .bl b, _ => .bl b
  | _, _, _, .int i, _ => .int i
  | _, _, _, .str s, _ => .str s
  | _, _, _, .scr h, _ => .scr (k.scl h)
  | _, _, _, .tup h r, _ => .tup (k.tup h) (RepA.keep k r fun _ m => nomatch m)
  | _, _, _, .fr h hO r, _ => .fr (k.lst h hO).1 (k.lst h hO).2 (RepA.keep k r fun _ m => nomatch m)
  | _, _, _, .ow h r, n => .ow (by rw [k.keep _ (by rw [h]; simp) (n _ List.mem_cons_self), h]) (RepA.keep k r fun a m => n a (List.mem_cons_of_mem _ m))
theorem RepA.keep (k : Kp H O cs H' O') : ∀ {vs : List V} {ds : List D} {os : List Addr}, RepA K H O vs ds os → (∀ a ∈ os, a ∉ cs) → RepA K H' O' vs ds os
  | _, _, _, .nil, _ => .nil
  | _, _, _, .cons r t, n => .cons (Rep.keep k r fun a m => n a (List.mem_append_left _ m)) (RepA.keep k t fun a m => n a (List.mem_append_right _ m))
end
/-- O may be said otherwise, or shrink -/
theorem Kp.shrink (h : ∀ a ∈ O', a ∈ O) : Kp H O [] H O' := ⟨fun _ _ _ => rfl, fun a m => .inl (h a m), fun _ m => nomatch m⟩
theorem Rep.sub {v : V} {d : D} {os : List Addr} (r : Rep K H O v d os) (h : ∀ a ∈ O', a ∈ O) : Rep K H O' v d os := r.keep (Kp.shrink h) fun _ _ m => nomatch m
theorem RepA.sub {v : List V} {d : List D} {os : List Addr} (r : RepA K H O v d os) (h : ∀ a ∈ O', a ∈ O) : RepA K H O' v d os := r.keep (Kp.shrink h) fun _ _ m => nomatch m
mutual
/-- a value let go is frozen -/
theorem Rep.fz (hs : ∀ a ∈ O', a ∈ O) : ∀ {v : V} {d : D} {os : List Addr}, Rep K H O v d os → (∀ a ∈ os, a ∉ O') → Rep K H O' v d.fz []
  | _, _, _, .non, _ => by rw [D.fz_of_not rfl]; exact .non
  | _, _, _, .bl b, _ => by rw [D.fz_of_not rfl]; exact .bl b
  | _, _, _, .int i, _ => by rw [D.fz_of_not rfl]; exact .int i
  | _, _, _, .str s, _ => by rw [D.fz_of_not rfl]; exact .str s
  | _, _, _, .tup h r, _ => by rw [D.fz_of_not rfl]; exact .tup h (r.sub hs)
  | _, _, _, .scr h, _ => by rw [D.fz_of_not rfl]; exact .scr h
  | _, _, _, .fr h n r, _ => by rw [D.fz_of_not rfl]; exact .fr h (fun m => n (hs _ m)) (r.sub hs)
  | _, _, _, .ow h r, n => by
    rw [D.fz]
    exact .fr h (n _ List.mem_cons_self) (RepA.fz hs r fun a m => n a (List.mem_cons_of_mem _ m))
theorem RepA.fz (hs : ∀ a ∈ O', a ∈ O) : ∀ {vs : List V} {ds : List D} {os : List Addr}, RepA K H O vs ds os → (∀ a ∈ os, a ∉ O') → RepA K H O' vs (D.fzA ds) []
  | _, _, _, .nil, _ => .nil
  | _, _, _, .cons r t, n => by
    have h1 := Rep.fz hs r fun a m => n a (List.mem_append_left _ m)
    have h2 := RepA.fz hs t fun a m => n a (List.mem_append_right _ m)
    exact .cons h1 h2
end
/-- items of a list -/
theorem RepA.get : ∀ {vs : List V} {ds : List D} {os : List Addr} {i : Nat} {d : D}, RepA K H O vs ds os → ds[i]? = some d →
    ∃ v pre oi post, vs[i]? = some v ∧ os = pre ++ (oi ++ post) ∧ Rep K H O v d oi ∧
      ∀ (H' : Hp) (O' : List Addr) (v' : V) (d' : D) (oi' : List Addr), Rep K H' O' v' d' oi' → (∀ w e ow, Rep K H O w e ow → (∀ a ∈ ow, a ∈ pre ++ post) → Rep K H' O' w e ow) →
        RepA K H' O' (vs.set i v') (ds.set i d') (pre ++ (oi' ++ post))
  | _, _, _, _, _, .nil, h => by simp at h
  | _, _, _, 0, _, .cons (v := v) (os := os) (os' := os') r t, h => by
    simp at h; subst h
    refine ⟨v, [], os, os', rfl, rfl, r, fun H' O' v' d' oi' r' fr => ?_⟩
    have all : ∀ {vs : List V} {ds : List D} {o : List Addr}, RepA K H O vs ds o → (∀ a ∈ o, a ∈ os') → RepA K H' O' vs ds o := by
      intro vs ds o q
      induction vs generalizing ds o with
      | nil => intro _; cases q; exact .nil
      | cons w vs ih =>
        intro hm
        cases q with
        | cons r1 t1 => exact .cons (fr _ _ _ r1 fun a m => by simpa using hm a (List.mem_append_left _ m)) (ih t1 fun a m => hm a (List.mem_append_right _ m))
    show RepA K H' O' _ _ (oi' ++ os')
    exact RepA.cons r' (all t fun a m => m)
  | _, _, _, i + 1, d, .cons (v := v) (d := d0) (os := os) (os' := os') r t, h => by
    obtain ⟨w, pre, oi, post, h1, h2, h3, h4⟩ := RepA.get (i := i) (d := d) t (by simpa using h)
    refine ⟨w, os ++ pre, oi, post, by simpa using h1, by rw [h2, List.append_assoc], h3, fun H' O' v' d' oi' r' fr => ?_⟩
    have q := h4 H' O' v' d' oi' r' fun w e ow q m => fr w e ow q fun a ma => by
      rw [List.append_assoc]; exact List.mem_append_right _ (m a ma)
    have q0 := fr v d0 os r fun a ma => by rw [List.append_assoc]; exact List.mem_append_left _ ma
    have := RepA.cons q0 q
    rw [← List.append_assoc] at this
    exact this
theorem RepA.append : ∀ {vs ws : List V} {ds es : List D} {o o2 : List Addr}, RepA K H O vs ds o → RepA K H O ws es o2 → RepA K H O (vs ++ ws) (ds ++ es) (o ++ o2)
  | _, _, _, _, _, _, .nil, q => q
  | _, _, _, _, _, _, .cons r t, q => by
    rw [List.append_assoc]
    exact .cons r (RepA.append t q)
theorem RepA.snoc {vs : List V} {ds : List D} {o o2 : List Addr} {v : V} {d : D} (r : RepA K H O vs ds o) (q : Rep K H O v d o2) : RepA K H O (vs ++ [v]) (ds ++ [d]) (o ++ o2) := by
  have := r.append (.cons q .nil)
  rw [List.append_nil] at this
  exact this
theorem RepA.unapp : ∀ {ds es : List D} {vs : List V} {os : List Addr}, RepA K H O vs (ds ++ es) os → ∃ v1 v2 o1 o2, vs = v1 ++ v2 ∧ os = o1 ++ o2 ∧ RepA K H O v1 ds o1 ∧ RepA K H O v2 es o2
  | [], es, vs, os, r => ⟨[], vs, [], os, rfl, rfl, .nil, r⟩
  | d :: ds, es, _, _, .cons (v := v) (vs := vs) (os := o) r t => by
    obtain ⟨v1, v2, o1, o2, e1, e2, q1, q2⟩ := RepA.unapp t
    exact ⟨v :: v1, v2, o ++ o1, o2, by rw [e1]; rfl, by rw [e2, List.append_assoc], .cons r q1, q2⟩
/-- a frozen list's parts -/
theorem RepA.nils : ∀ {vs : List V} {ds : List D}, RepA K H O vs ds [] → ∀ (i : Nat) (d : D), ds[i]? = some d → ∃ v, vs[i]? = some v ∧ Rep K H O v d [] := by
  intro vs ds r i d h
  obtain ⟨v, pre, oi, post, h1, h2, h3, _⟩ := RepA.get r h
  have e := nil_of_app h2.symm
  have e2 := nil_of_app e.2
  rw [e2.1] at h3
  exact ⟨v, h1, h3⟩
theorem RepA.take (n : Nat) : ∀ {vs : List V} {ds : List D}, RepA K H O vs ds [] → RepA K H O (vs.take n) (ds.take n) [] := by
  intro vs
  induction vs generalizing n with
  | nil => intro ds r; cases r; simp; exact .nil
  | cons v vs ih =>
    intro ds r
    generalize ho : ([] : List Addr) = o at r
    cases r with
    | cons r t =>
      obtain ⟨e1, e2⟩ := nil_of_app ho.symm
      subst e1 e2
      cases n with
      | zero => exact .nil
      | succ n => exact .cons r (ih n t)
theorem RepA.drop (n : Nat) : ∀ {vs : List V} {ds : List D}, RepA K H O vs ds [] → RepA K H O (vs.drop n) (ds.drop n) [] := by
  intro vs
  induction vs generalizing n with
  | nil => intro ds r; cases r; simp; exact .nil
  | cons v vs ih =>
    intro ds r
    generalize ho : ([] : List Addr) = o at r
    cases r with
    | cons r t =>
      obtain ⟨e1, e2⟩ := nil_of_app ho.symm
      subst e1 e2
      cases n with
      | zero => exact .cons r t
      | succ n => exact ih n t

/-! slots -/
inductive RepS (K : PySem.W.Frag) (H : Hp) (O : List Addr) : St → Rho → List Addr → Prop
  | nil : RepS K H O [] [] []
  | no {x : Option V} {σ : St} {ρ : Rho} {os : List Addr} : RepS K H O σ ρ os → RepS K H O (x :: σ) (none :: ρ) os
  | so {v : V} {d : D} {σ : St} {ρ : Rho} {o os : List Addr} : Rep K H O v d o → RepS K H O σ ρ os → RepS K H O (some v :: σ) (some d :: ρ) (o ++ os)
theorem RepS.length : ∀ {σ : St} {ρ : Rho} {os : List Addr}, RepS K H O σ ρ os → σ.length = ρ.length
  | _, _, _, .nil => rfl
  | _, _, _, .no t => by rw [List.length_cons, List.length_cons, RepS.length t]
  | _, _, _, .so _ t => by rw [List.length_cons, List.length_cons, RepS.length t]
theorem RepS.mut : ∀ {σ : St} {ρ : Rho} {os : List Addr}, RepS K H O σ ρ os → ∀ a ∈ os, Mut (H a)
  | _, _, _, .nil, _, h => nomatch h
  | _, _, _, .no t, a, m => RepS.mut t a m
  | _, _, _, .so r t, a, m => (List.mem_append.mp m).elim (r.mut a) (RepS.mut t a)
theorem RepS.map : ∀ {σ : St} {ρ : Rho} {os : List Addr}, RepS K H O σ ρ os → (∀ w e ow, Rep K H O w e ow → (∀ a ∈ ow, a ∈ os) → Rep K H' O' w e ow) → RepS K H' O' σ ρ os
  | _, _, _, .nil, _ => .nil
  | _, _, _, .no t, f => .no (RepS.map t f)
  | _, _, _, .so r t, f => .so (f _ _ _ r fun a m => List.mem_append_left _ m) (RepS.map t fun w e ow q m => f w e ow q fun a ma => List.mem_append_right _ (m a ma))
theorem RepS.keep (k : Kp H O cs H' O') {σ : St} {ρ : Rho} {os : List Addr} (r : RepS K H O σ ρ os) (n : ∀ a ∈ os, a ∉ cs) : RepS K H' O' σ ρ os :=
  r.map fun _ _ _ q m => q.keep k fun a ma => n a (m a ma)
theorem RepS.sub {σ : St} {ρ : Rho} {os : List Addr} (r : RepS K H O σ ρ os) (h : ∀ a ∈ O', a ∈ O) : RepS K H O' σ ρ os := r.keep (Kp.shrink h) fun _ _ m => nomatch m
theorem RepS.split : ∀ {σ : St} {ρ : Rho} {os : List Addr} {i : Nat} {d : D}, RepS K H O σ ρ os → ρ[i]? = some (some d) →
    ∃ v pre oi post, σ[i]? = some (some v) ∧ os = pre ++ (oi ++ post) ∧ Rep K H O v d oi ∧
      ∀ (H' : Hp) (O' : List Addr) (v' : V) (d' : D) (oi' : List Addr), Rep K H' O' v' d' oi' → (∀ w e ow, Rep K H O w e ow → (∀ a ∈ ow, a ∈ pre ++ post) → Rep K H' O' w e ow) →
        RepS K H' O' (σ.set i (some v')) (ρ.set i (some d')) (pre ++ (oi' ++ post))
  | _, _, _, _, _, .nil, h => by simp at h
  | _, _, _, 0, _, .no t, h => by simp at h
  | _, _, _, i + 1, d, .no (x := x) t, h => by
    obtain ⟨v, pre, oi, post, h1, h2, h3, h4⟩ := RepS.split (i := i) (d := d) t (by simpa using h)
    exact ⟨v, pre, oi, post, by simpa using h1, h2, h3, fun H' O' v' d' oi' r' fr => .no (h4 H' O' v' d' oi' r' fr)⟩
  | _, _, _, 0, _, .so (v := v) (o := o) (os := os) r t, h => by
    simp at h; subst h
    exact ⟨v, [], o, os, rfl, rfl, r, fun H' O' v' d' oi' r' fr => by
      show RepS K H' O' _ _ (oi' ++ os)
      exact RepS.so r' (RepS.map t fun w e ow q m => fr w e ow q fun a ma => m a ma)⟩
  | _, _, _, i + 1, d, .so (v := v) (d := d0) (o := o) r t, h => by
    obtain ⟨w, pre, oi, post, h1, h2, h3, h4⟩ := RepS.split (i := i) (d := d) t (by simpa using h)
    refine ⟨w, o ++ pre, oi, post, by simpa using h1, by rw [h2, List.append_assoc], h3, fun H' O' v' d' oi' r' fr => ?_⟩
    have q := h4 H' O' v' d' oi' r' fun w e ow q m => fr w e ow q fun a ma => by
      rw [List.append_assoc]; exact List.mem_append_right _ (m a ma)
    have q0 := fr v d0 o r fun a ma => by rw [List.append_assoc]; exact List.mem_append_left _ ma
    have := RepS.so q0 q
    rw [← List.append_assoc] at this
    exact this
/-- a slot is set, whatever it held -/
theorem RepS.set : ∀ {σ : St} {ρ : Rho} {os : List Addr} {i : Nat}, RepS K H O σ ρ os → i < ρ.length →
    ∃ pre oi post, os = pre ++ (oi ++ post) ∧
      ∀ (H' : Hp) (O' : List Addr) (v' : V) (d' : D) (oi' : List Addr), Rep K H' O' v' d' oi' → (∀ w e ow, Rep K H O w e ow → (∀ a ∈ ow, a ∈ pre ++ post) → Rep K H' O' w e ow) →
        RepS K H' O' (σ.set i (some v')) (ρ.set i (some d')) (pre ++ (oi' ++ post))
  | _, _, _, _, .nil, h => by simp at h
  | _, _, _, 0, .no (os := os) t, h =>
    ⟨[], [], os, rfl, fun H' O' v' d' oi' r' fr => by
      show RepS K H' O' _ _ (oi' ++ os)
      exact RepS.so r' (RepS.map t fun w e ow q m => fr w e ow q fun a ma => m a ma)⟩
  | _, _, _, i + 1, .no t, h => by
    obtain ⟨pre, oi, post, h2, h4⟩ := RepS.set (i := i) t (by simpa using h)
    exact ⟨pre, oi, post, h2, fun H' O' v' d' oi' r' fr => .no (h4 H' O' v' d' oi' r' fr)⟩
  | _, _, _, 0, .so (o := o) (os := os) r t, h =>
    ⟨[], o, os, rfl, fun H' O' v' d' oi' r' fr => by
      show RepS K H' O' _ _ (oi' ++ os)
      exact RepS.so r' (RepS.map t fun w e ow q m => fr w e ow q fun a ma => m a ma)⟩
  | _, _, _, i + 1, .so (v := v) (d := d0) (o := o) r t, h => by
    obtain ⟨pre, oi, post, h2, h4⟩ := RepS.set (i := i) t (by simpa using h)
    refine ⟨o ++ pre, oi, post, by rw [h2, List.append_assoc], fun H' O' v' d' oi' r' fr => ?_⟩
    have q := h4 H' O' v' d' oi' r' fun w e ow q m => fr w e ow q fun a ma => by
      rw [List.append_assoc]; exact List.mem_append_right _ (m a ma)
    have q0 := fr v d0 o r fun a ma => by rw [List.append_assoc]; exact List.mem_append_left _ ma
    have := RepS.so q0 q
    rw [← List.append_assoc] at this
    exact this
end

/-! the state in a body: T what others own -/
structure SI (K : PySem.W.Frag) (H : Hp) (T os : List Addr) (σ : St) (ρ : Rho) : Prop where
  rs : RepS K H (T ++ os) σ ρ os
  nd : (T ++ os).Nodup
  tr : ∀ a ∈ T, H a ≠ none
structure Fr (H : Hp) (os : List Addr) (H' : Hp) (os' : List Addr) : Prop where
  keep : ∀ a, H a ≠ none → a ∉ os → H' a = H a
  sub : ∀ a ∈ os', a ∈ os ∨ H a = none
theorem Fr.refl {H : Hp} {os os' : List Addr} (h : ∀ a ∈ os', a ∈ os) : Fr H os H os' := ⟨fun _ _ _ => rfl, fun a m => .inl (h a m)⟩
theorem Fr.trans {H H1 H2 : Hp} {a b c : List Addr} (f : Fr H a H1 b) (g : Fr H1 b H2 c) : Fr H a H2 c := by
  have nb : ∀ x, H x ≠ none → x ∉ a → H1 x ≠ none ∧ x ∉ b := fun x h n => by
    refine ⟨by rw [f.keep x h n]; exact h, fun m => ?_⟩
    rcases f.sub x m with q | q
    · exact n q
    · exact h q
  refine ⟨fun x h n => ?_, fun x m => ?_⟩
  · obtain ⟨h1, h2⟩ := nb x h n
    rw [g.keep x h1 h2, f.keep x h n]
  · rcases g.sub x m with q | q
    · exact f.sub x q
    · by_cases hx : H x = none
      · exact .inr hx
      · by_cases ha : x ∈ a
        · exact .inl ha
        · exact absurd q (nb x hx ha).1
theorem Fr.less {H H1 : Hp} {a b c : List Addr} (f : Fr H a H1 b) (h : ∀ x ∈ c, x ∈ b) : Fr H a H1 c := ⟨f.keep, fun x m => f.sub x (h x m)⟩
/-- behind an expression: its value v for d, what it owns, what the slots own -/
structure Out (K : PySem.W.Frag) (σ : St) (T os : List Addr) (H H' : Hp) (ρ' : Rho) (v : V) (d : D) (ov os' : List Addr) : Prop where
  rv : Rep K H' (T ++ (ov ++ os')) v d ov
  rs : RepS K H' (T ++ (ov ++ os')) σ ρ' os'
  nd : (T ++ (ov ++ os')).Nodup
  fr : Fr H os H' (ov ++ os')
abbrev Ev := Rho → Option (D × Rho)
def tI (K : PySem.W.Frag) (ev : Ev) : TE := fun σ H Q => ∃ T os ρ d ρ', SI K H T os σ ρ ∧ ev ρ = some (d, ρ') ∧
  ∀ v H' ov os', Out K σ T os H H' ρ' v d ov os' → Q v H'
theorem imp {X : Cx} {e : Expr} {t t' : TE} (h : PE X e t) (i : ∀ σ H Q, t' σ H Q → t σ H Q) : PE X e t' :=
  ⟨fun pins s σ H Q I q => h.run pins s σ H Q I (i σ H Q q)⟩

section
variable {K : PySem.W.Frag} {H H' : Hp} {T os ov os' : List Addr} {σ : St} {ρ ρ' : Rho} {v : V} {d : D}
theorem SI.notin (s : SI K H T os σ ρ) : ∀ a ∈ T, a ∉ os := fun a m n => by
  have := List.nodup_append.mp s.nd
  exact this.2.2 a m a n rfl
theorem Fr.trk (f : Fr H os H' os') (s : SI K H T os σ ρ) : ∀ a ∈ T, H' a ≠ none := fun a m => by
  rw [f.keep a (s.tr a m) (s.notin a m)]; exact s.tr a m
/-- the state that the next part of an expression meets: the value's own are held aside -/
theorem Out.next (o : Out K σ T os H H' ρ' v d ov os') (s : SI K H T os σ ρ) : SI K H' (T ++ ov) os' σ ρ' := by
  refine ⟨by rw [List.append_assoc]; exact o.rs, by rw [List.append_assoc]; exact o.nd, fun a m => ?_⟩
  rcases List.mem_append.mp m with m | m
  · exact o.fr.trk s a m
  · intro e
    have := o.rv.mut a m
    rw [e] at this; exact this
/-- the state once the value is dropped -/
theorem Out.drop (o : Out K σ T os H H' ρ' v d ov os') (s : SI K H T os σ ρ) : SI K H' T os' σ ρ' ∧ Fr H os H' os' := by
  refine ⟨⟨o.rs.sub fun a m => ?_, ?_, o.fr.trk s⟩, o.fr.less fun a m => List.mem_append_right _ m⟩
  · rcases List.mem_append.mp m with m | m
    · exact List.mem_append_left _ m
    · exact List.mem_append_right _ (List.mem_append_right _ m)
  · have := o.nd
    refine this.sublist (List.Sublist.append (List.Sublist.refl _) (List.sublist_append_right _ _))
/-- from a state that an expression left, what else is held stays -/
theorem Fr.kp (f : Fr H os H' os') (s : SI K H T os σ ρ) : Kp H (T ++ os) os H' (T ++ os') := by
  refine ⟨f.keep, fun a m => ?_, fun a m => ⟨List.mem_append_right _ m, s.rs.mut a m⟩⟩
  rcases List.mem_append.mp m with m | m
  · exact .inl (List.mem_append_left _ m)
  · rcases f.sub a m with q | q
    · exact .inl (List.mem_append_right _ q)
    · exact .inr q
end
end Rr

namespace Rr
open PySem PySem.Spec L2

/-! the end of an operation: its value, new objects alone -/
structure PRes (K : PySem.W.Frag) (H : Hp) (O : List Addr) (H' : Hp) (v : V) (d : D) (ov : List Addr) : Prop where
  rv : Rep K H' (ov ++ O) v d ov
  nd : ov.Nodup
  fresh : ∀ a ∈ ov, H a = none
  keep : ∀ a, H a ≠ none → H' a = H a
section
variable {K : PySem.W.Frag} {H H' H0 : Hp} {T os os0 ov O : List Addr} {σ : L2.St} {ρ : Rho} {v : V} {d : D}
theorem PRes.same (r : Rep K H O v d []) : PRes K H O H v d [] := ⟨r, List.nodup_nil, (fun _ m => nomatch m), fun _ _ => rfl⟩
theorem upd_keep {p : Addr} {o : HO} (hp : H p = none) : ∀ a, H a ≠ none → upd H p o a = H a := fun a h => upd_ne fun e => h (e ▸ hp)
theorem kp_new {p : Addr} {o : HO} {O' : List Addr} (hp : H p = none) (h : ∀ a ∈ O', a ∈ O ∨ a = p) : Kp H O [] (upd H p o) O' :=
  ⟨fun a h _ => upd_keep hp a h, fun a m => (h a m).imp _root_.id fun (e : a = p) => by rw [e]; exact hp, fun _ m => nomatch m⟩
theorem PRes.list {p : Addr} {vs : List V} {ds : List D} (hp : H p = none) (r : RepA K H O vs ds []) : PRes K H O (upd H p (.lst vs)) (.ref p) (.lst true ds) [p] := by
  refine ⟨.ow upd_same (r.keep (kp_new hp fun a m => ?_) fun _ m => nomatch m), by simp, fun a m => ?_, upd_keep hp⟩
  · rcases List.mem_cons.mp m with e | m
    · exact .inr e
    · exact .inl m
  · rw [List.mem_singleton.mp m]; exact hp
theorem PRes.tup {p : Addr} {vs : List V} {ds : List D} (hp : H p = none) (r : RepA K H O vs ds []) : PRes K H O (upd H p (.tup vs)) (.ref p) (.tup ds) [] :=
  ⟨.tup upd_same (r.keep (kp_new hp fun a m => .inl m) fun _ m => nomatch m), List.nodup_nil, (fun _ m => nomatch m), upd_keep hp⟩
theorem fin (s : SI K H T os σ ρ) (f : Fr H0 os0 H os) (p : PRes K H (T ++ os) H' v d ov) : Out K σ T os0 H0 H' ρ v d ov os := by
  have hf : ∀ a ∈ ov, a ∉ T ++ os := fun a m n => by
    have h := p.fresh a m
    rcases List.mem_append.mp n with n | n
    · exact s.tr a n h
    · have := s.rs.mut a n
      rw [h] at this; exact this
  have k : Kp H (T ++ os) [] H' (T ++ (ov ++ os)) := ⟨fun a h _ => p.keep a h, fun a m => by
    rcases List.mem_append.mp m with m | m
    · exact .inl (List.mem_append_left _ m)
    · rcases List.mem_append.mp m with m | m
      · exact .inr (p.fresh a m)
      · exact .inl (List.mem_append_right _ m), fun _ m => nomatch m⟩
  refine ⟨p.rv.sub fun a m => ?_, s.rs.keep k (fun _ _ m => nomatch m), ?_, f.trans ⟨fun a h _ => p.keep a h, fun a m => ?_⟩⟩
  · simp only [List.mem_append] at m ⊢
    rcases m with m | m | m
    · exact .inr (.inl m)
    · exact .inl m
    · exact .inr (.inr m)
  · have n := List.nodup_append.mp s.nd
    refine List.nodup_append.mpr ⟨n.1, List.nodup_append.mpr ⟨p.nd, n.2.1, fun a ha b hb e => hf a ha (List.mem_append_right _ (e ▸ hb))⟩, fun a ha b hb e => ?_⟩
    subst e
    rcases List.mem_append.mp hb with hb | hb
    · exact hf a hb (List.mem_append_left _ ha)
    · exact n.2.2 a ha a hb rfl
  · rcases List.mem_append.mp m with m | m
    · exact .inr (p.fresh a m)
    · exact .inl m
/-- a value let go, in the state behind it -/
theorem Out.let {H' : Hp} {ρ' : Rho} {os' : List Addr} (o : Out K σ T os H H' ρ' v d ov os') : Rep K H' (T ++ os') v d.fz [] := by
  have n := List.nodup_append.mp o.nd
  have n2 := List.nodup_append.mp n.2.1
  refine o.rv.fz (fun a m => ?_) fun a m q => ?_
  · simp only [List.mem_append] at m ⊢
    exact m.imp _root_.id .inr
  · rcases List.mem_append.mp q with q | q
    · exact n.2.2 a q a (List.mem_append_left _ m) rfl
    · exact n2.2.2 a m a q rfl
end

/-! ### data for == and repr -/
mutual
def D.py : D → PyData
  | .non => .none
  | .bl b => .bool b
  | .int i => .int i
  | .str s => .str s
  | .tup xs => .tuple (D.pyA xs)
  | .lst _ xs => .list (D.pyA xs)
  | .dct _ _ _ => .dict []
  | .scr ns => .list (ns.map .int)
def D.pyA : List D → List PyData
  | [] => []
  | x :: xs => D.py x :: D.pyA xs
end
theorem D.pyA_map : ∀ xs : List D, D.pyA xs = xs.map D.py
  | [] => rfl
  | x :: xs => by rw [D.pyA, D.pyA_map xs, List.map_cons]
mutual
def D.ok : D → Bool
  | .tup xs => D.okA xs
  | .lst _ xs => D.okA xs
  | .dct _ _ _ => false
  | .scr _ => false
  | _ => true
def D.okA : List D → Bool
  | [] => true
  | x :: xs => D.ok x && D.okA xs
end
mutual
theorem Rep.dp {K : PySem.W.Frag} {H : Hp} {O : List Addr} : ∀ {v : V} {d : D} {os : List Addr}, Rep K H O v d os → d.ok = true → Dp K H v d.py
  | _, _, _, .non, _ => .non
  | _, _, _, .bl b, _ => .bl b
  | _, _, _, .int i, _ => .int i
  | _, _, _, .str s, _ => .str s
  | _, _, _, .scr _, h => nomatch h
  | _, _, _, .tup h r, k => by
    rw [D.py]
    exact .tup (SqT.of h) (RepA.dp r (by simpa only [D.ok] using k))
  | _, _, _, .fr h _ r, k => by
    rw [D.py]
    exact .lst (SqL.of h) (RepA.dp r (by simpa only [D.ok] using k))
  | _, _, _, .ow h r, k => by
    rw [D.py]
    exact .lst (SqL.of h) (RepA.dp r (by simpa only [D.ok] using k))
theorem RepA.dp {K : PySem.W.Frag} {H : Hp} {O : List Addr} : ∀ {vs : List V} {ds : List D} {os : List Addr}, RepA K H O vs ds os → D.okA ds = true → DpAll K H vs (D.pyA ds)
  | _, _, _, .nil, _ => by rw [D.pyA]; exact .nil
  | _, _, _, .cons r t, k => by
    rw [D.okA, Bool.and_eq_true] at k
    rw [D.pyA]
    exact .cons (Rep.dp r k.1) (RepA.dp t k.2)
end

/-! ### two-place operations, on frozen values -/
abbrev lim : Nat := 1000000
theorem lim_le {n : Nat} (h : n ≤ lim) : n ≤ sizeLine := by rw [sizeLine_eq]; have : lim = 1000000 := rfl; omega
theorem lim_lt {n : Nat} (h : n ≤ lim) : n < sizeLine := by rw [sizeLine_eq]; have : lim = 1000000 := rfl; omega
def addD : D → D → Option D
  | .int a, .int b => some (.int (a + b))
  | .int a, .bl b => some (.int (a + PyProof.Rows.b2i b))
  | .tup a, .tup b => if a.length + b.length ≤ lim then some (.tup (a ++ b)) else none
  | .lst _ a, .lst _ b => if a.length + b.length ≤ lim then some (.lst true (a ++ b)) else none
  | .str a, .str b => if a.length + b.length ≤ lim then some (.str (a ++ b)) else none
  | _, _ => none
def subD : D → D → Option D
  | .int a, .int b => some (.int (a - b))
  | _, _ => none
def mulD : D → D → Option D
  | .int a, .int b => if a.natAbs.log2 + b.natAbs.log2 < 1000000 then some (.int (a * b)) else none
  | .lst _ a, .int k => if 0 ≤ k ∧ k ≤ 1000 ∧ a.length ≤ 1000 then some (.lst true (List.replicate k.toNat a).flatten) else none
  | .tup a, .int k => if 0 ≤ k ∧ k ≤ 1000 ∧ a.length ≤ 1000 ∧ a ≠ [] then some (.tup (List.replicate k.toNat a).flatten) else none
  | _, _ => none
def modD : D → D → Option D
  | .int a, .int b => if 0 < b then some (.int (a % b)) else none
  | _, _ => none
def fdivD : D → D → Option D
  | .int a, .int b => if 0 < b ∧ b.natAbs.log2 < 9000 then some (.int (a / b)) else none
  | _, _ => none
def powD : D → D → Option D
  | .int a, .int b => if 0 ≤ b ∧ ((a.natAbs.log2 + 1 : Nat) : Int) * b ≤ 134217728 then some (.int (a ^ b.toNat)) else none
  | _, _ => none
def bandD : D → D → Option D
  | .int a, .int b => some (.int (Builtin.bitAnd a b))
  | _, _ => none
def borD : D → D → Option D
  | .int a, .int b => some (.int (Builtin.bitOr a b))
  | _, _ => none
def shrD : D → D → Option D
  | .int a, .int b => if 0 ≤ b then some (.int (a / 2 ^ b.toNat)) else none
  | _, _ => none
def shlD : D → D → Option D
  | .int a, .int b => if 0 ≤ b ∧ b ≤ 1000000 ∧ a.natAbs < 2 ^ 64 then some (.int (a * 2 ^ b.toNat)) else none
  | _, _ => none

def rDo (K : PySem.W.Frag) (f : D → D → Option D) : R2 := fun x y H Q => ∃ O d1 d2 d, Rep K H O x d1 [] ∧ Rep K H O y d2 [] ∧ f d1 d2 = some d ∧
  ∀ v H' ov, PRes K H O H' v d ov → Q v H'
section
variable {X : Cx}
theorem ints_of {f : D → D → Option D} {C : Int → Int → Prop} {g : Int → Int → Int} {F : Value → Value → Sem Value} (ho : OpR X F (rI C fun i j => .int (g i j)))
    (hf : ∀ d1 d2 d, f d1 d2 = some d → ∃ i j, d1 = .int i ∧ d2 = .int j ∧ C i j ∧ d = .int (g i j)) : OpR X F (rDo X.K f) := by
  intro pins s σ H x y v u Q I rx ry ⟨O, d1, d2, d, r1, r2, e, q⟩
  obtain ⟨i, j, rfl, rfl, c, rfl⟩ := hf d1 d2 d e
  cases r1; cases r2
  exact ho pins s σ H _ _ v u Q I rx ry ⟨i, j, rfl, rfl, c, q _ _ _ (.same (.int _))⟩
theorem op_subD : OpR X (binaryOp .Sub) (rDo X.K subD) := by
  intro pins s σ H x y v u Q I rx ry ⟨O, d1, d2, d, r1, r2, e, q⟩
  unfold subD at e
  split at e <;> cases e
  cases r1; cases r2
  exact op_sub pins s σ H _ _ v u Q I rx ry ⟨_, _, rfl, rfl, q _ _ _ (.same (.int _))⟩
theorem op_bandD : OpR X (binaryOp .BitAnd) (rDo X.K bandD) := by
  intro pins s σ H x y v u Q I rx ry ⟨O, d1, d2, d, r1, r2, e, q⟩
  unfold bandD at e
  split at e <;> cases e
  cases r1; cases r2
  exact op_and pins s σ H _ _ v u Q I rx ry ⟨_, _, rfl, rfl, q _ _ _ (.same (.int _))⟩
theorem op_borD : OpR X (binaryOp .BitOr) (rDo X.K borD) := by
  intro pins s σ H x y v u Q I rx ry ⟨O, d1, d2, d, r1, r2, e, q⟩
  unfold borD at e
  split at e <;> cases e
  cases r1; cases r2
  exact op_or pins s σ H _ _ v u Q I rx ry ⟨_, _, rfl, rfl, q _ _ _ (.same (.int _))⟩
theorem op_modD : OpR X (binaryOp .Mod) (rDo X.K modD) := ints_of op_mod fun d1 d2 d e => by
  unfold modD at e
  split at e
  · split at e <;> cases e
    exact ⟨_, _, rfl, rfl, by assumption, rfl⟩
  · cases e
theorem op_fdivD : OpR X (binaryOp .FloorDiv) (rDo X.K fdivD) := ints_of op_fdivW fun d1 d2 d e => by
  unfold fdivD at e
  split at e
  · split at e <;> cases e
    exact ⟨_, _, rfl, rfl, by assumption, rfl⟩
  · cases e
theorem op_shrD : OpR X (binaryOp .RShift) (rDo X.K shrD) := ints_of op_shr fun d1 d2 d e => by
  unfold shrD at e
  split at e
  · split at e <;> cases e
    exact ⟨_, _, rfl, rfl, by assumption, rfl⟩
  · cases e
theorem op_shlD : OpR X (binaryOp .LShift) (rDo X.K shlD) := ints_of op_shl fun d1 d2 d e => by
  unfold shlD at e
  split at e
  · split at e <;> cases e
    exact ⟨_, _, rfl, rfl, by assumption, rfl⟩
  · cases e
theorem op_powW : OpR X (binaryOp .Pow) (rI (fun a b => 0 ≤ b ∧ ((a.natAbs.log2 + 1 : Nat) : Int) * b ≤ 134217728) fun i j => .int (i ^ j.toNat)) := opI fun i j _ _ _ _ _ hc q => by
  refine PyProof.Rows.pow_int hc.1 ?_ q
  have b : Builtin.Int.intBits i ≤ i.natAbs.log2 + 1 := by
    unfold Builtin.Int.intBits
    split <;> omega
  have e : (2 : Int) ^ 27 = 134217728 := by decide
  rw [e]
  refine Int.le_trans (Int.mul_le_mul_of_nonneg_right ?_ hc.1) hc.2
  omega
theorem op_powD : OpR X (binaryOp .Pow) (rDo X.K powD) := ints_of op_powW fun d1 d2 d e => by
  unfold powD at e
  split at e
  · split at e <;> cases e
    exact ⟨_, _, rfl, rfl, by assumption, rfl⟩
  · cases e
theorem op_addD : OpR X (binaryOp .Add) (rDo X.K addD) := by
  intro pins s σ H x y v u Q I rx ry ⟨O, d1, d2, d, r1, r2, e, q⟩
  unfold addD at e
  split at e
  · cases e; cases r1; cases r2
    exact op_add pins s σ H _ _ v u Q I rx ry ⟨_, _, rfl, rfl, q _ _ _ (.same (.int _))⟩
  · cases e; cases r1; cases r2
    exact op_add_ib pins s σ H _ _ v u Q I rx ry ⟨_, _, rfl, rfl, q _ _ _ (.same (.int _))⟩
  · split at e <;> cases e
    rename_i a b hz
    generalize ho : ([] : List Addr) = o at r1 r2
    cases r1 with | tup h1 q1 => ?_
    cases r2 with | tup h2 q2 => ?_
    have z := lim_le hz
    rw [← q1.length, ← q2.length] at z
    refine op_catA pins s σ H _ _ v u Q I rx ry ⟨_, _, _, _, rfl, rfl, SqT.of h1, SqT.of h2, z, fun e1 => ?_, fun _ e2 => ?_, fun n1 n2 p hp => ?_⟩
    · subst e1
      cases q1
      exact q _ _ _ (.same (.tup h2 q2))
    · subst e2
      cases q2
      rw [List.append_nil] at q
      exact q _ _ _ (.same (.tup h1 q1))
    · exact q _ _ _ (.tup hp (q1.append q2))
  · split at e <;> cases e
    rename_i o1 a o2 b hz
    generalize ho : ([] : List Addr) = o at r1 r2
    cases r1 with
    | ow _ _ => cases ho
    | fr h1 _ q1 =>
      cases r2 with
      | fr h2 _ q2 =>
        have z := lim_le hz
        rw [← q1.length, ← q2.length] at z
        exact op_cat pins s σ H _ _ v u Q I rx ry ⟨_, _, _, _, rfl, rfl, h1, h2, z, fun p hp => q _ _ _ (.list hp (q1.append q2))⟩
  · split at e <;> cases e
    rename_i hz
    cases r1; cases r2
    exact op_add_str pins s σ H _ _ v u Q I rx ry ⟨_, _, rfl, rfl, lim_le hz, q _ _ _ (.same (.str _))⟩
  · cases e
end
end Rr

namespace Rr
open PySem PySem.Spec L2
open PySem.AutoSeq1 (wpAny_loadPart')

/-! a tuple once, and no times -/
theorem tmul_one (l : Addr) (items : Array Value) (n : Nat) (dd : Option Addr) (sl : Array (Option Value)) (u : Tok) :
    Meets (Builtin.«tuple.__mul__» ⟨[.ref l, .int 1 u], []⟩) (fun _ R s => s.heap.get? l = some { cls := .type "tuple", dict := dd, data := .seq items n, slots := sl } ∧ R (.ok (.ret (Value.ref l))) s) :=
  .of_wp fun prog w A R s h => by
    obtain ⟨hp, g, d, tk, os⟩ := s
    obtain ⟨hl, h⟩ := h
    have f1 := AutoSeq1.idx_int
    wp_walk using wpAny_loadPart' hl
    exact ⟨_, rfl, h⟩
theorem tmul_none (l : Addr) (items : Array Value) (n : Nat) (dd : Option Addr) (sl : Array (Option Value)) (u : Tok) (c1 : (items.isEmpty || (0 : Int) == 1) = false) :
    Meets (Builtin.«tuple.__mul__» ⟨[.ref l, .int 0 u], []⟩) (fun _ R s => s.heap.get? l = some { cls := .type "tuple", dict := dd, data := .seq items n, slots := sl } ∧
      R (.ok (.ret (Value.ref s.heap.objs.size))) { s with heap := s.heap.push { cls := Value.type "tuple", data := Data.seq #[] }, toks := s.toks }) :=
  .of_wp fun prog w A R s h => by
    obtain ⟨hp, g, d, tk, os⟩ := s
    obtain ⟨hl, h⟩ := h
    have f1 := AutoSeq1.idx_int
    wp_walk using wpAny_loadPart' hl
    repeat (first
      | (refine wpAny_ite_false (decide_eq_false (by rw [c1]; exact Bool.false_ne_true)) ?_; wp_walk using wpAny_loadPart' hl))
    exact ⟨_, rfl, h⟩
section
variable {X : Cx}
theorem op_repT1 : OpR X (binaryOp .Mult) (fun x y H Q => ∃ l xs, x = .ref l ∧ y = .int 1 ∧ SqT X.K H l xs ∧ Q (.ref l) H) := by
  intro pins s σ H x y v u Q I rx ry h
  obtain ⟨l, xs, rfl, rfl, hT, q⟩ := h
  cases rx
  obtain ⟨t, rfl⟩ := ry
  obtain ⟨its, r, ⟨⟨cls, dd, data, sl⟩, ho, hc, n, hd⟩, hs⟩ := I.tuple hT
  simp only at hc hd
  subst hc hd
  exact wpAny_binaryOp_repeat_ref (T := "tuple") (U := "int") (by decide) ⟨_, ho, rfl⟩ (fun s' => typeIs_int s' 1 t) noFill_tuple_mul F.fills_int_mul F.slot_int_rmul repeat_tuple F.slot_int_index.lookup
    (call_meets F.slot_int_rmul (typeIs_int s 1 t) F.entry_int_rmul (F.args_int_rmul_2 _ _) (int_rmul_tuple 1 t l its.toArray n dd sl)
      ⟨ho, rfl, ⟨_, ho, rfl⟩, call_meets F.slot_tuple_mul ⟨_, ho, rfl⟩ F.entry_tuple_mul (F.args_tuple_mul_2 _ _) (tmul_one l its.toArray n dd sl t) ⟨ho, ⟨.ref l, H, I, rfl, q⟩⟩⟩)
theorem op_repT0 : OpR X (binaryOp .Mult) (fun x y H Q => ∃ l xs, x = .ref l ∧ y = .int 0 ∧ SqT X.K H l xs ∧ xs ≠ [] ∧ ∀ p, H p = none → Q (.ref p) (upd H p (.tup []))) := by
  intro pins s σ H x y v u Q I rx ry h
  obtain ⟨l, xs, rfl, rfl, hT, hne, q⟩ := h
  cases rx
  obtain ⟨t, rfl⟩ := ry
  obtain ⟨its, r, ⟨⟨cls, dd, data, sl⟩, ho, hc, n, hd⟩, hs⟩ := I.tuple hT
  simp only at hc hd
  subst hc hd
  have hi : its.toArray.isEmpty = false := by
    cases its with
    | nil => cases r; exact absurd rfl hne
    | cons a b => rfl
  refine wpAny_binaryOp_repeat_ref (T := "tuple") (U := "int") (by decide) ⟨_, ho, rfl⟩ (fun s' => typeIs_int s' 0 t) noFill_tuple_mul F.fills_int_mul F.slot_int_rmul repeat_tuple F.slot_int_index.lookup
    (call_meets F.slot_int_rmul (typeIs_int s 0 t) F.entry_int_rmul (F.args_int_rmul_2 _ _) (int_rmul_tuple 0 t l its.toArray n dd sl)
      ⟨ho, rfl, ⟨_, ho, rfl⟩, call_meets F.slot_tuple_mul ⟨_, ho, rfl⟩ F.entry_tuple_mul (F.args_tuple_mul_2 _ _) (tmul_none l its.toArray n dd sl t (by rw [hi]; rfl)) ⟨ho, ?_⟩⟩)
  refine ⟨.ref s.heap.objs.size, _, I.laid (t' := s.toks) (o := .tup []) (fun b ob q => Heap.get?_push_of_some _ q) (Nat.le_refl _) ?_, rfl, q _ (I.hok.fresh (Nat.le_refl _))⟩
  exact ⟨Nat.zero_le _, [], .nil, PyProof.Rows.IsTup.new _ _⟩

theorem flat_rep {α : Type} (xs : List α) : ∀ k, (List.replicate (k + 1) xs).flatten = xs ++ (List.replicate k xs).flatten := fun k => by
  rw [List.replicate_succ, List.flatten_cons]
theorem RepA.rep {K : PySem.W.Frag} {H : Hp} {O : List Addr} {vs : List V} {ds : List D} (r : RepA K H O vs ds []) : ∀ k, RepA K H O (List.replicate k vs).flatten (List.replicate k ds).flatten []
  | 0 => .nil
  | k + 1 => by
    rw [flat_rep, flat_rep]
    exact r.append (RepA.rep r k)
theorem op_mulD : OpR X (binaryOp .Mult) (rDo X.K mulD) := by
  intro pins s σ H x y v u Q I rx ry ⟨O, d1, d2, d, r1, r2, e, q⟩
  unfold mulD at e
  split at e
  · split at e <;> cases e
    rename_i hz
    cases r1; cases r2
    exact op_mulW pins s σ H _ _ v u Q I rx ry ⟨_, _, rfl, rfl, hz, q _ _ _ (.same (.int _))⟩
  · split at e <;> cases e
    rename_i o1 a k hz
    generalize ho : ([] : List Addr) = o at r1 r2
    cases r2
    cases r1 with
    | @fr a vs _ h1 _ q1 =>
      obtain ⟨h0, hk, hl⟩ := hz
      have e1 := q1.length
      refine op_rep pins s σ H _ _ v u Q I rx ry ⟨_, _, _, rfl, rfl, h1, by omega, by omega, ?_, fun p hp => q _ _ _ (.list hp (q1.rep _))⟩
      rw [sizeLine_eq]
      have : vs.length * k.toNat ≤ 1000 * 1000 := Nat.mul_le_mul (by rw [e1]; exact hl) (by omega)
      omega
  · split at e <;> cases e
    rename_i a k hz
    obtain ⟨h0, hk, hl, hne⟩ := hz
    generalize ho : ([] : List Addr) = o at r1 r2
    cases r2
    cases r1 with
    | @tup a' vs _ h1 q1 =>
      have e1 := q1.length
      have hne' : vs ≠ [] := fun z => by
        rw [z] at q1
        cases q1
        exact hne rfl
      by_cases k0 : k = 0
      · subst k0
        exact op_repT0 pins s σ H _ _ v u Q I rx ry ⟨_, _, rfl, rfl, SqT.of h1, hne', fun p hp => q _ _ _ (.tup hp .nil)⟩
      · by_cases k1 : k = 1
        · subst k1
          have e2 : (List.replicate (1 : Int).toNat a).flatten = a := by simp
          rw [e2] at q
          exact op_repT1 pins s σ H _ _ v u Q I rx ry ⟨_, _, rfl, rfl, SqT.of h1, q _ _ _ (.same (.tup h1 q1))⟩
        · exact op_repT pins s σ H _ _ v u Q I rx ry ⟨_, _, _, rfl, rfl, SqT.of h1, hne', by omega, hk, by rw [e1]; exact hl, fun p hp => q _ _ _ (.tup hp (q1.rep _))⟩
  · cases e

/-! ### comparisons -/
def shp (d : D) : Bool := d.ok && SeqAt.shaped d.py
def eqB : D → D → Option Bool
  | .int a, .int b => some (decide (a = b))
  | .bl a, .bl b => some (decide (a = b))
  | .str a, .str b => some (decide (a = b))
  | .non, .non => some true
  | a, b => if shp a && shp b then some (PyData.eqv a.py b.py) else none
def neB (a b : D) : Option Bool := (eqB a b).map (!·)
def cmpI (p : Int → Int → Bool) : D → D → Option Bool
  | .int a, .int b => some (p a b)
  | _, _ => none
def isB : D → D → Option Bool
  | .bl a, .bl b => some (decide (a = b))
  | .int _, .bl _ => none
  | .non, .non => some true
  | .bl _, .non => some false
  | .int _, .non => some false
  | .str _, .non => some false
  | .tup _, .non => some false
  | .lst _ _, .non => some false
  | _, _ => none
def isnB (a b : D) : Option Bool := (isB a b).map (!·)
def flD : D → Bool
  | .non => true
  | .bl _ => true
  | .int _ => true
  | .str _ => true
  | _ => false
def inB (a : D) : D → Option Bool
  | .tup xs => if flD a && xs.all flD then some (xs.any fun z => PyData.eqv z.py a.py) else none
  | .lst _ xs => if flD a && xs.all flD then some (xs.any fun z => PyData.eqv z.py a.py) else
      (if shp a && xs.all D.ok && SeqAt.shaped (.list (D.pyA xs)) then some (xs.any fun z => PyData.eqv z.py a.py) else none)
  | _ => none
def ninB (a b : D) : Option Bool := (inB a b).map (!·)
def rDc (K : PySem.W.Frag) (f : D → D → Option Bool) : R2 := fun x y H Q => ∃ O d1 d2 b, Rep K H O x d1 [] ∧ Rep K H O y d2 [] ∧ f d1 d2 = some b ∧ Q (.bl b) H
theorem OpR.of {F : Value → Value → Sem Value} {f : D → D → Option Bool} {r : R2} (h : OpR X F r)
    (hi : ∀ O H x y d1 d2 b Q, Rep X.K H O x d1 [] → Rep X.K H O y d2 [] → f d1 d2 = some b → Q (V.bl b) H → r x y H Q) : OpR X F (rDc X.K f) := by
  intro pins s σ H x y v u Q I rx ry ⟨O, d1, d2, b, r1, r2, e, q⟩
  exact h pins s σ H x y v u Q I rx ry (hi O H x y d1 d2 b Q r1 r2 e q)
theorem cmp_of {F : Value → Value → Sem Value} {p : Int → Int → Bool} (h : OpR X F (rI0 fun i j => .bl (p i j))) : OpR X F (rDc X.K (cmpI p)) :=
  OpR.of h fun O H x y d1 d2 b Q r1 r2 e q => by
    unfold cmpI at e
    split at e <;> cases e
    cases r1; cases r2
    exact ⟨_, _, rfl, rfl, q⟩
theorem op_ltD : OpR X (compareOp .Lt) (rDc X.K (cmpI fun i j => decide (i < j))) := cmp_of op_lt
theorem op_leD : OpR X (compareOp .LtE) (rDc X.K (cmpI fun i j => decide (i ≤ j))) := cmp_of op_le
theorem op_gtD : OpR X (compareOp .Gt) (rDc X.K (cmpI fun i j => decide (j < i))) := cmp_of op_gt
theorem op_geD : OpR X (compareOp .GtE) (rDc X.K (cmpI fun i j => decide (j ≤ i))) := cmp_of op_ge
theorem shp_ok {d : D} (h : shp d = true) : d.ok = true ∧ SeqAt.shaped d.py = true := Bool.and_eq_true_iff.mp h
theorem op_eqB (hu : X.A.units + 64 < cLine) : OpR X (compareOp .Eq) (rDc X.K eqB) := by
  refine OpR.of (OpR.or op_eq (op_eqD hu)) fun O H x y d1 d2 b Q r1 r2 e q => ?_
  unfold eqB at e
  split at e
  · cases e; cases r1; cases r2
    exact .inl ⟨rfl, by simpa using q⟩
  · cases e; cases r1; cases r2
    exact .inl ⟨rfl, by simpa using q⟩
  · cases e; cases r1; cases r2
    exact .inl ⟨rfl, by simpa using q⟩
  · cases e; cases r1; cases r2
    exact .inl ⟨rfl, by simpa using q⟩
  · split at e <;> cases e
    rename_i hz
    rw [Bool.and_eq_true] at hz
    obtain ⟨k1, s1⟩ := shp_ok hz.1
    obtain ⟨k2, s2⟩ := shp_ok hz.2
    exact .inr ⟨_, _, r1.dp k1, r2.dp k2, s1, s2, q⟩
theorem op_neB (hu : X.A.units + 64 < cLine) : OpR X (compareOp .NotEq) (rDc X.K neB) := by
  refine OpR.of (OpR.or op_ne (op_neD hu)) fun O H x y d1 d2 b Q r1 r2 e q => ?_
  unfold neB at e
  obtain ⟨c, e', rfl⟩ := Option.map_eq_some_iff.mp e
  clear e
  have e := e'
  clear e'
  unfold eqB at e
  split at e
  · cases e; cases r1; cases r2
    exact .inl ⟨rfl, by simpa using q⟩
  · cases e; cases r1; cases r2
    exact .inl ⟨rfl, by simpa using q⟩
  · cases e; cases r1; cases r2
    exact .inl ⟨rfl, by simpa using q⟩
  · cases e; cases r1; cases r2
    exact .inl ⟨rfl, by simpa using q⟩
  · split at e <;> cases e
    rename_i hz
    rw [Bool.and_eq_true] at hz
    obtain ⟨k1, s1⟩ := shp_ok hz.1
    obtain ⟨k2, s2⟩ := shp_ok hz.2
    exact .inr ⟨_, _, r1.dp k1, r2.dp k2, s1, s2, q⟩
theorem rep_non {K : PySem.W.Frag} {H : Hp} {O : List Addr} {x : V} {d : D} {b : Bool} (r : Rep K H O x d []) (e : isB d .non = some b) : b = decide (x = .non) := by
  generalize ho : ([] : List Addr) = o at r
  cases r <;> first
    | (cases e; simp)
    | cases e
theorem op_isB : OpR X (compareOp .Is) (rDc X.K isB) := by
  refine OpR.of (OpR.or op_isBl op_isN) fun O H x y d1 d2 b Q r1 r2 e q => ?_
  cases r2 with
  | bl c =>
    cases d1 with
    | bl a => cases r1; cases e; exact .inl ⟨_, _, rfl, rfl, q⟩
    | _ => cases e
  | non => exact .inr ⟨rfl, by rw [← rep_non r1 e]; exact q⟩
  | _ => cases d1 <;> (cases e; done)
theorem op_isnB : OpR X (compareOp .IsNot) (rDc X.K isnB) := by
  refine OpR.of (OpR.or op_notBl op_notN) fun O H x y d1 d2 b Q r1 r2 e q => ?_
  obtain ⟨c, e', rfl⟩ := Option.map_eq_some_iff.mp e
  clear e
  have e := e'
  clear e'
  cases r2 with
  | bl c =>
    cases d1 with
    | bl a => cases r1; cases e; exact .inl ⟨_, _, rfl, rfl, q⟩
    | _ => cases e
  | non => exact .inr ⟨rfl, by rw [← rep_non r1 e]; exact q⟩
  | _ => cases d1 <;> (cases e; done)
theorem rep_flat {K : PySem.W.Frag} {H : Hp} {O : List Addr} {x : V} {d : D} {o : List Addr} (r : Rep K H O x d o) (f : flD d = true) : flatV x = true := by
  cases r <;> first | rfl | cases f
theorem rep_eqV {K : PySem.W.Frag} {H : Hp} {O : List Addr} {x y : V} {d e : D} {o o' : List Addr} (r : Rep K H O x d o) (r' : Rep K H O y e o') (f : flD d = true) (f' : flD e = true) : eqV x y = PyData.eqv d.py e.py := by
  cases r <;> first | (cases f; done) | (cases r' <;> first | (cases f'; done) | (simp only [D.py, PyData.eqv, eqV]; done) | (simp only [D.py, PyData.eqv, eqV]; rfl))
theorem rep_in {K : PySem.W.Frag} {H : Hp} {O : List Addr} {x : V} {d : D} {o : List Addr} (r : Rep K H O x d o) (f : flD d = true) : ∀ {vs : List V} {ds : List D} {os : List Addr}, RepA K H O vs ds os → ds.all flD = true →
    vs.all flatV = true ∧ inV x vs = ds.any fun z => PyData.eqv z.py d.py
  | _, _, _, .nil, _ => ⟨rfl, rfl⟩
  | _, _, _, .cons q t, h => by
    rw [List.all_cons, Bool.and_eq_true] at h
    obtain ⟨i1, i2⟩ := rep_in r f t h.2
    unfold inV at i2 ⊢
    refine ⟨by rw [List.all_cons, rep_flat q h.1, i1]; rfl, ?_⟩
    rw [List.any_cons, List.any_cons, i2, rep_eqV q r h.1 f]
theorem okA_all : ∀ ds : List D, ds.all D.ok = true → D.okA ds = true
  | [], _ => rfl
  | d :: ds, h => by
    rw [List.all_cons, Bool.and_eq_true] at h
    rw [D.okA, h.1, okA_all ds h.2]
    rfl
theorem any_py (g : PyData → Bool) : ∀ ds : List D, (D.pyA ds).any g = ds.any fun z => g z.py
  | [] => rfl
  | d :: ds => by rw [D.pyA, List.any_cons, List.any_cons, any_py g ds]
theorem op_inB (hu : X.A.units + 65 < cLine) : OpR X (compareOp .In) (rDc X.K inB) := by
  refine OpR.of (OpR.or op_in_seq (op_inD hu)) fun O H x y d1 d2 b Q r1 r2 e q => ?_
  unfold inB at e
  split at e
  · split at e <;> cases e
    rename_i hz
    rw [Bool.and_eq_true] at hz
    generalize ho : ([] : List Addr) = o at r2
    cases r2 with | tup h2 q2 => ?_
    obtain ⟨f1, f2⟩ := rep_in r1 hz.1 q2 hz.2
    exact .inl ⟨_, _, rfl, .inr (SqT.of h2), rep_flat r1 hz.1, f1, by rw [f2]; exact q⟩
  · rename_i o1 zs
    have split2 : ∃ a vs, y = V.ref a ∧ H a = some (.lst vs) ∧ RepA X.K H O vs zs [] := by
      generalize ho : ([] : List Addr) = o at r2
      cases r2 with
      | fr h2 _ q2 => exact ⟨_, _, rfl, h2, by rw [ho]; exact q2⟩
      | ow _ _ => cases ho
    obtain ⟨a, vs, rfl, h2, q2⟩ := split2
    split at e
    · cases e
      rename_i hz
      rw [Bool.and_eq_true] at hz
      obtain ⟨f1, f2⟩ := rep_in r1 hz.1 q2 hz.2
      exact .inl ⟨_, _, rfl, .inl (SqL.of h2), rep_flat r1 hz.1, f1, by rw [f2]; exact q⟩
    · split at e <;> cases e
      rename_i hz
      rw [Bool.and_eq_true, Bool.and_eq_true] at hz
      obtain ⟨k1, s1⟩ := shp_ok hz.1.1
      exact .inr ⟨_, _, r1.dp k1, .lst (SqL.of h2) (q2.dp (okA_all _ hz.1.2)), s1, hz.2, by rw [any_py]; exact q⟩
  · cases e
theorem op_ninB (hu : X.A.units + 65 < cLine) : OpR X (compareOp .NotIn) (rDc X.K ninB) := by
  refine OpR.of (OpR.or op_notIn_seq (op_notInD hu)) fun O H x y d1 d2 b Q r1 r2 e q => ?_
  obtain ⟨c, e', rfl⟩ := Option.map_eq_some_iff.mp e
  clear e
  have e := e'
  clear e'
  unfold inB at e
  split at e
  · split at e <;> cases e
    rename_i hz
    rw [Bool.and_eq_true] at hz
    generalize ho : ([] : List Addr) = o at r2
    cases r2 with | tup h2 q2 => ?_
    obtain ⟨f1, f2⟩ := rep_in r1 hz.1 q2 hz.2
    exact .inl ⟨_, _, rfl, .inr (SqT.of h2), rep_flat r1 hz.1, f1, by rw [f2]; exact q⟩
  · rename_i o1 zs
    have split2 : ∃ a vs, y = V.ref a ∧ H a = some (.lst vs) ∧ RepA X.K H O vs zs [] := by
      generalize ho : ([] : List Addr) = o at r2
      cases r2 with
      | fr h2 _ q2 => exact ⟨_, _, rfl, h2, by rw [ho]; exact q2⟩
      | ow _ _ => cases ho
    obtain ⟨a, vs, rfl, h2, q2⟩ := split2
    split at e
    · cases e
      rename_i hz
      rw [Bool.and_eq_true] at hz
      obtain ⟨f1, f2⟩ := rep_in r1 hz.1 q2 hz.2
      exact .inl ⟨_, _, rfl, .inl (SqL.of h2), rep_flat r1 hz.1, f1, by rw [f2]; exact q⟩
    · split at e <;> cases e
      rename_i hz
      rw [Bool.and_eq_true, Bool.and_eq_true] at hz
      obtain ⟨k1, s1⟩ := shp_ok hz.1.1
      exact .inr ⟨_, _, r1.dp k1, .lst (SqL.of h2) (q2.dp (okA_all _ hz.1.2)), s1, hz.2, by rw [any_py]; exact q⟩
  · cases e
end
end Rr

namespace Rr
open PySem PySem.Spec L2

/-! ## the small language: what a def's text means, by slots -/
inductive BO where
  | add | sub | mul | mod | fdiv | pow | band | bor | shl | shr
inductive CO where
  | eq | ne | lt | le | gt | ge | is | isn | inn | nin
inductive TY where
  | int | bool | str | tuple | list
/-- built-ins of one argument, which leave nothing and keep nothing -/
inductive BI where
  | len | abs | int | list | tuple | all | repr
mutual
inductive ME where
  | var (i : Nat)
  | con (d : D)
  | bin (o : BO) (a b : ME)
  | neg (a : ME)
  | not (a : ME)
  | and (a b : ME)
  | or (a b : ME)
  | ifx (c a b : ME)
  | cmp (o : CO) (a b : ME)
  | chain (o o' : CO) (a b c : ME)
  | tup (as : MA)
  | lst (as : MA)
  | sub (a i : ME)
  | sbv (j : Nat) (i : ME)
  | slice (a : ME) (lo hi : MO)
  | blt (b : BI) (a : ME)
  | lnv (j : Nat)
  | isi (a : ME) (t : TY)
  | call (f : Nat) (as : MA)
  | cio (f j : Nat) (as : MA)
  | ckw (f : Nat) (as : MA) (perm : List Nat)
  | comp (own : List Nat) (tg : MT) (it : MI) (c : MO) (elt : ME)
  | app (j : Nat) (e : ME)
  | ext (j : Nat) (e : ME)
  | pop (j : Nat)
  | popp (j : Nat) (i : Int)
  | cmb (o : CO) (j : Nat) (i : Int)
  | rvl (a : ME)
  | lrg (t : Bool) (r : MR)
inductive MA where
  | nil
  | cons (a : ME) (r : MA)
inductive MO where
  | no
  | so (a : ME)
inductive MT where
  | nm (i : Nat)
  | tp (ts : MTs)
  | st (j : Nat) (i : ME)
inductive MTs where
  | nil
  | cons (t : MT) (r : MTs)
inductive MR where
  | to (a : ME)
  | ft (a b : ME)
inductive MI where
  | it (a : ME)
  | rng (r : MR)
  | enu (a : ME)
  | zip (a b : ME)
end
mutual
inductive MS where
  | asg (t : MT) (e : ME)
  | par (ts : MTs) (as : MA)
  | exp (e : ME)
  | ife (c : ME) (a b : MB)
  | for (t : MT) (it : MI) (b : MB)
  | whl (c : ME) (b : MB)
  | ret (e : ME)
  | retv (j : Nat)
  | retn
  | brk
  | cnt
  | pas
inductive MB where
  | nil
  | cons (s : MS) (r : MB)
end

/-! ### meanings -/
def boD : BO → D → D → Option D
  | .add => addD
  | .sub => subD
  | .mul => mulD
  | .mod => modD
  | .fdiv => fdivD
  | .pow => powD
  | .band => bandD
  | .bor => borD
  | .shl => shlD
  | .shr => shrD
def coD : CO → D → D → Option Bool
  | .eq => eqB
  | .ne => neB
  | .lt => cmpI fun i j => decide (i < j)
  | .le => cmpI fun i j => decide (i ≤ j)
  | .gt => cmpI fun i j => decide (j < i)
  | .ge => cmpI fun i j => decide (j ≤ i)
  | .is => isB
  | .isn => isnB
  | .inn => inB
  | .nin => ninB
def tyD : TY → D → Option Bool
  | .int, .int _ => some true
  | .int, .bl _ => some true
  | .int, .scr _ => none
  | .int, .dct _ _ _ => none
  | .int, _ => some false
  | .bool, .bl _ => some true
  | .bool, .scr _ => none
  | .bool, .dct _ _ _ => none
  | .bool, _ => some false
  | .str, .str _ => some true
  | .str, .scr _ => none
  | .str, .dct _ _ _ => none
  | .str, _ => some false
  | .tuple, .tup _ => some true
  | .tuple, .scr _ => none
  | .tuple, .dct _ _ _ => none
  | .tuple, _ => some false
  | .list, .lst _ _ => some true
  | .list, .scr _ => none
  | .list, .dct _ _ _ => none
  | .list, _ => some false
/-- the bools of a list of bools -/
def bools : List D → Option (List Bool)
  | [] => some []
  | .bl b :: r => (bools r).map (b :: ·)
  | _ :: _ => none
def lenD : D → Option D
  | .lst _ xs => some (.int xs.length)
  | .tup xs => some (.int xs.length)
  | .str s => if s.length ≤ lim then some (.int s.length) else none
  | _ => none
def biD : BI → D → Option D
  | .len, d => lenD d
  | .abs, .int i => some (.int (if i < 0 then -i else i))
  | .int, .int i => some (.int i)
  | .int, .bl b => some (.int (if b then 1 else 0))
  | .list, .lst _ xs => some (.lst true xs)
  | .list, .tup xs => some (.lst true xs)
  | .tuple, .lst _ xs => some (.tup xs)
  | .tuple, .tup xs => some (.tup xs)
  | .all, .lst _ xs => (bools xs).map fun bs => .bl (bs.all _root_.id)
  | .repr, d => if d.ok && d.py.showable && decide (d.py.depth ≤ 64) && decide (d.py.shown.length ≤ lim) then some (.str d.py.shown) else none
  | _, _ => none
def itemD (d : D) (i : D) : Option D :=
  match d, i with
  | .lst _ xs, .int k => atI xs k
  | .tup xs, .int k => atI xs k
  | _, _ => none
def cutD (xs : List D) (lo hi : Option Int) : List D := (xs.drop (HT.sIx xs.length 0 lo)).take (HT.sIx xs.length xs.length hi - HT.sIx xs.length 0 lo)
def sliceD (d : D) (lo hi : Option Int) : Option D :=
  match d with
  | .lst _ xs => some (.lst true (cutD xs lo hi))
  | .tup xs => some (.tup (cutD xs lo hi))
  | .scr ns => some (.lst true (cutD (ns.map .int) lo hi))
  | _ => none
def itemsD : D → Option (List D)
  | .lst _ xs => some xs
  | .tup xs => some xs
  | _ => none
def intsD (lo : Int) (n : Nat) : List D := (List.range n).map fun (k : Nat) => .int (lo + (k : Int))
def small62 (i : Int) : Bool := decide (-4611686018427387904 ≤ i ∧ i < 4611686018427387904)
def enumD (xs : List D) : List D := (List.range xs.length).zipWith (fun (k : Nat) x => .tup [.int k, x]) xs
def zipD (xs ys : List D) : List D := xs.zipWith (fun x y => .tup [x, y]) ys
/-- a slot's list, owned -/
def ownL (ρ : Rho) (j : Nat) : Option (List D) :=
  match ρ[j]? with
  | some (some (.lst true xs)) => some xs
  | _ => none
def getV (ρ : Rho) (j : Nat) : Option D := (ρ[j]?).bind _root_.id
def wipeR (ρ : Rho) (own : List Nat) : Rho := own.foldr (fun i r => r.set i none) ρ
/-- what was unset ahead of a loop is forgotten -/
def mask (ρ0 ρ : Rho) : Rho := ρ0.zipWith (fun a b => match a with | none => none | some _ => b) ρ
def notTup : D → Bool
  | .tup _ => false
  | _ => true
inductive Fl where
  | nx | bk | ct | rt (d : D)
abbrev Fn := Nat → List D → Option (D × List D)
def forD (ρ0 : Rho) (turn : D → Rho → Option (Fl × Rho)) : List D → Rho → Option (Fl × Rho)
  | [], ρ => some (.nx, mask ρ0 ρ)
  | d :: ds, ρ => (turn d (mask ρ0 ρ)).bind fun p => match p.1 with
    | .nx => forD ρ0 turn ds p.2
    | .ct => forD ρ0 turn ds p.2
    | .bk => some (.nx, mask ρ0 p.2)
    | .rt d => some (.rt d, p.2)
def whlD (ρ0 : Rho) (c : Rho → Option (D × Rho)) (b : Rho → Option (Fl × Rho)) : Nat → Rho → Option (Fl × Rho)
  | 0, _ => none
  | n + 1, ρ => (c (mask ρ0 ρ)).bind fun p => match p.1 with
    | .bl true => (b p.2).bind fun q => match q.1 with
      | .nx => whlD ρ0 c b n q.2
      | .ct => whlD ρ0 c b n q.2
      | .bk => some (.nx, mask ρ0 q.2)
      | .rt d => some (.rt d, q.2)
    | .bl false => some (.nx, mask ρ0 p.2)
    | _ => none
def compD (own : List Nat) (tg : D → Rho → Option Rho) (c : Rho → Option (D × Rho)) (elt : Rho → Option (D × Rho)) : List D → Rho → Option (List D × Rho)
  | [], ρ => some ([], wipeR ρ own)
  | d :: ds, ρ => (tg d (wipeR ρ own)).bind fun ρ1 => (c ρ1).bind fun p => match p.1 with
    | .bl true => (elt p.2).bind fun q => (compD own tg c elt ds q.2).bind fun r => some (q.1 :: r.1, r.2)
    | .bl false => compD own tg c elt ds p.2
    | _ => none
/-- how many turns a while is given -/
abbrev fuel : Nat := 100000
mutual
def den (C : Fn) : ME → Rho → Option (D × Rho)
  | .var i, ρ => (getV ρ i).bind fun d => if d.isOwn then some (d.fz, ρ.set i (some d.fz)) else some (d, ρ)
  | .con d, ρ => some (d, ρ)
  | .bin o a b, ρ => (den C a ρ).bind fun p => (den C b p.2).bind fun q => (boD o p.1.fz q.1.fz).bind fun d => some (d, q.2)
  | .neg a, ρ => (den C a ρ).bind fun p => match p.1 with
    | .int i => some (.int (-i), p.2)
    | _ => none
  | .not a, ρ => (den C a ρ).bind fun p => match p.1 with
    | .bl b => some (.bl (!b), p.2)
    | _ => none
  | .and a b, ρ => (den C a ρ).bind fun p => match p.1 with
    | .bl true => den C b p.2
    | .bl false => some (.bl false, p.2)
    | _ => none
  | .or a b, ρ => (den C a ρ).bind fun p => match p.1 with
    | .bl true => some (.bl true, p.2)
    | .bl false => den C b p.2
    | _ => none
  | .ifx c a b, ρ => (den C c ρ).bind fun p => match p.1 with
    | .bl true => den C a p.2
    | .bl false => den C b p.2
    | _ => none
  | .cmp o a b, ρ => (den C a ρ).bind fun p => (den C b p.2).bind fun q => (coD o p.1.fz q.1.fz).bind fun k => some (.bl k, q.2)
  | .chain o o' a b c, ρ => (den C a ρ).bind fun p => (den C b p.2).bind fun q => (coD o p.1.fz q.1.fz).bind fun k =>
      match k with
      | true => (den C c q.2).bind fun r => (coD o' q.1.fz r.1.fz).bind fun k' => some (.bl k', r.2)
      | false => some (.bl false, q.2)
  | .tup as, ρ => (denA C as ρ).bind fun p => if p.1.length ≤ lim then some (.tup (D.fzA p.1), p.2) else none
  | .lst as, ρ => (denA C as ρ).bind fun p => if p.1.length ≤ lim then some (.lst true p.1, p.2) else none
  | .sub a i, ρ => (den C a ρ).bind fun p => (den C i p.2).bind fun q => (itemD p.1.fz q.1).bind fun d => some (d, q.2)
  | .sbv j i, ρ => (getV ρ j).bind fun _ => (den C i ρ).bind fun q => (getV q.2 j).bind fun x => (itemD x q.1).bind fun d => if d.isOwn then none else some (d, q.2)
  | .slice a lo hi, ρ => (den C a ρ).bind fun p => (denO C lo p.2).bind fun q => (denO C hi q.2).bind fun r => (sliceD p.1.fz q.1 r.1).bind fun d => some (d, r.2)
  | .blt b a, ρ => (den C a ρ).bind fun p => (biD b p.1.fz).bind fun d => some (d, p.2)
  | .lnv j, ρ => (getV ρ j).bind fun x => (lenD x).bind fun d => some (d, ρ)
  | .isi a t, ρ => (den C a ρ).bind fun p => (tyD t p.1.fz).bind fun b => some (.bl b, p.2)
  | .call f as, ρ => (denA C as ρ).bind fun p => (C f (D.fzA p.1)).bind fun r => match r.2 with
    | [] => some (r.1, p.2)
    | _ => none
  | .cio f j as, ρ => (getV ρ j).bind fun _ => (denA C as ρ).bind fun p => (ownL p.2 j).bind fun xs => (C f (.lst true xs :: D.fzA p.1)).bind fun r => match r.2 with
    | [.lst true ys] => some (r.1, p.2.set j (some (.lst true ys)))
    | _ => none
  | .ckw f as perm, ρ => (denA C as ρ).bind fun p => (C f (perm.filterMap fun k => (D.fzA p.1)[k]?)).bind fun r => match r.2 with
    | [] => some (r.1, p.2)
    | _ => none
  | .comp own tg it c elt, ρ => (denI C it ρ).bind fun p => if p.1.length ≤ lim then (compD own (denT C tg) (denC C c) (den C elt) p.1 p.2).bind fun r => some (.lst true r.1, r.2) else none
  | .app j e, ρ => (ownL ρ j).bind fun _ => (den C e ρ).bind fun p => (ownL p.2 j).bind fun xs => if xs.length < lim then some (.non, p.2.set j (some (.lst true (xs ++ [p.1])))) else none
  | .ext j e, ρ => (ownL ρ j).bind fun _ => (den C e ρ).bind fun p => (ownL p.2 j).bind fun xs => match p.1 with
    | .lst _ ys => if xs.length + ys.length ≤ lim then some (.non, p.2.set j (some (.lst true (xs ++ ys)))) else none
    | _ => none
  | .pop j, ρ => (ownL ρ j).bind fun xs => (xs[xs.length - 1]?).bind fun d => if d.isOwn then none else some (d, ρ.set j (some (.lst true xs.dropLast)))
  | .popp j i, ρ => (ownL ρ j).bind fun xs => (ixN xs.length i).bind fun k => match xs[k]? with
    | some (.lst true ys) => (ys[ys.length - 1]?).bind fun d => if d.isOwn then none else some (d, ρ.set j (some (.lst true (xs.set k (.lst true ys.dropLast)))))
    | _ => none
  | .cmb o j i, ρ => (getV ρ j).bind fun x => if notTup x then (itemD x (.int i)).bind fun d => (coD o d.fz (.lst false [])).bind fun k => some (.bl k, ρ) else none
  | .rvl a, ρ => (den C a ρ).bind fun p => match p.1.fz with
    | .lst _ xs => some (.lst true xs.reverse, p.2)
    | _ => none
  | .lrg t r, ρ => (denR C r ρ).bind fun r => if (r.2.1 - r.1).toNat ≤ lim then (match t with
      | false => some (.lst true (intsD r.1 (r.2.1 - r.1).toNat), r.2.2)
      | true => some (.tup (intsD r.1 (r.2.1 - r.1).toNat), r.2.2)) else none
def denA (C : Fn) : MA → Rho → Option (List D × Rho)
  | .nil, ρ => some ([], ρ)
  | .cons a r, ρ => (den C a ρ).bind fun p => (denA C r p.2).bind fun q => some (p.1 :: q.1, q.2)
def denO (C : Fn) : MO → Rho → Option (Option Int × Rho)
  | .no, ρ => some (none, ρ)
  | .so a, ρ => (den C a ρ).bind fun p => match p.1 with
    | .int i => some (some i, p.2)
    | _ => none
def denC (C : Fn) : MO → Rho → Option (D × Rho)
  | .no, ρ => some (.bl true, ρ)
  | .so a, ρ => den C a ρ
def denT (C : Fn) : MT → D → Rho → Option Rho
  | .nm i, d, ρ => if i < ρ.length then some (ρ.set i (some d)) else none
  | .tp ts, d, ρ => match d with
    | .tup ds => denTs C ts ds ρ
    | _ => none
  | .st j i, d, ρ => (getV ρ j).bind fun _ => (den C i ρ).bind fun p => (ownL p.2 j).bind fun xs => match p.1 with
    | .int k => (ixN xs.length k).bind fun n => some (p.2.set j (some (.lst true (xs.set n d))))
    | _ => none
def denTs (C : Fn) : MTs → List D → Rho → Option Rho
  | .nil, [], ρ => some ρ
  | .cons t r, d :: ds, ρ => (denT C t d ρ).bind fun ρ1 => denTs C r ds ρ1
  | _, _, _ => none
def denR (C : Fn) : MR → Rho → Option (Int × Int × Rho)
  | .to a, ρ => (den C a ρ).bind fun p => match p.1 with
    | .int n => if small62 n then some (0, n, p.2) else none
    | _ => none
  | .ft a b, ρ => (den C a ρ).bind fun p => (den C b p.2).bind fun q => match p.1, q.1 with
    | .int i, .int j => if small62 i && small62 j then some (i, j, q.2) else none
    | _, _ => none
def denI (C : Fn) : MI → Rho → Option (List D × Rho)
  | .it a, ρ => (den C a ρ).bind fun p => (itemsD p.1.fz).bind fun xs => some (xs, p.2)
  | .rng r, ρ => (denR C r ρ).bind fun r => some (intsD r.1 (r.2.1 - r.1).toNat, r.2.2)
  | .enu a, ρ => (den C a ρ).bind fun p => match p.1.fz with
    | .lst _ xs => some (enumD xs, p.2)
    | _ => none
  | .zip a b, ρ => (den C a ρ).bind fun p => (den C b p.2).bind fun q => match p.1.fz, q.1.fz with
    | .lst _ xs, .lst _ ys => some (zipD xs ys, q.2)
    | .tup xs, .tup ys => some (zipD xs ys, q.2)
    | _, _ => none
end
mutual
def denS (C : Fn) : MS → Rho → Option (Fl × Rho)
  | .asg t e, ρ => (den C e ρ).bind fun p => (denT C t p.1 p.2).bind fun r => some (.nx, r)
  | .par ts as, ρ => (denA C as ρ).bind fun p => if p.1.length ≤ lim then (denTs C ts p.1 p.2).bind fun r => some (.nx, r) else none
  | .exp e, ρ => (den C e ρ).bind fun p => some (.nx, p.2)
  | .ife c a b, ρ => (den C c ρ).bind fun p => match p.1 with
    | .bl true => denB C a p.2
    | .bl false => denB C b p.2
    | _ => none
  | .for t it b, ρ => (denI C it ρ).bind fun p => forD p.2 (fun d r => (denT C t d r).bind fun r1 => denB C b r1) p.1 p.2
  | .whl c b, ρ => whlD ρ (den C c) (denB C b) fuel ρ
  | .ret e, ρ => (den C e ρ).bind fun p => some (.rt p.1, p.2)
  | .retv j, ρ => (getV ρ j).bind fun d => some (.rt d, ρ.set j none)
  | .retn, ρ => some (.rt .non, ρ)
  | .brk, ρ => some (.bk, ρ)
  | .cnt, ρ => some (.ct, ρ)
  | .pas, ρ => some (.nx, ρ)
def denB (C : Fn) : MB → Rho → Option (Fl × Rho)
  | .nil, ρ => some (.nx, ρ)
  | .cons s r, ρ => (denS C s ρ).bind fun p => match p.1 with
    | .nx => denB C r p.2
    | f => some (f, p.2)
end
/-- a def: how many parameters, whether the first one is handed in and out, how many slots, its body -/
structure MF where
  ps : Nat
  io : Bool
  ns : Nat
  body : MB
def runF (C : Fn) (F : MF) (ds : List D) : Option (D × List D) :=
  if ds.length = F.ps ∧ F.ps ≤ F.ns then
    (denB C F.body (ds.map some ++ List.replicate (F.ns - F.ps) none)).bind fun p =>
      match p.1 with
      | .bk => none
      | .ct => none
      | f => (match f with | .rt d => some d | _ => some .non).bind fun d => if F.io then (match p.2[0]? with | some (some x) => some (d, [x]) | _ => none) else some (d, [])
  else none
/-- calls to a depth -/
def callN (fs : List MF) : Nat → Fn
  | 0, _, _ => none
  | k + 1, f, ds => match fs[f]? with
    | some F => runF (callN fs k) F ds
    | none => none
end Rr

namespace Rr
open PySem PySem.Spec L2

section
variable {K : PySem.W.Frag} {H H1 H2 H' : Hp} {T t os os1 os2 ov ov1 ov2 : List Addr} {σ : L2.St} {ρ ρ1 ρ2 : Rho} {v v1 v2 : V} {d d1 d2 : D}
theorem SI.lessT (s : SI K H (T ++ t) os σ ρ) : SI K H T os σ ρ := by
  refine ⟨s.rs.sub fun a m => ?_, ?_, fun a m => s.tr a (List.mem_append_left _ m)⟩
  · simp only [List.mem_append] at m ⊢
    rcases m with m | m
    · exact .inl (.inl m)
    · exact .inr m
  · refine s.nd.sublist ?_
    rw [List.append_assoc]
    exact List.Sublist.append (List.Sublist.refl _) (List.sublist_append_right _ _)
theorem one (s : SI K H T os σ ρ) (o : Out K σ T os H H1 ρ1 v d ov os1) : SI K H1 T os1 σ ρ1 ∧ Fr H os H1 os1 ∧ Rep K H1 (T ++ os1) v d.fz [] :=
  ⟨(o.drop s).1, (o.drop s).2, o.let⟩
/-- a value held aside through a further part, then let go -/
theorem held (s1 : SI K H1 (T ++ ov1) os1 σ ρ1) (r : Rep K H1 (T ++ (ov1 ++ os1)) v1 d1 ov1) (s2 : SI K H2 (T ++ ov1) os2 σ ρ2) (f : Fr H1 os1 H2 os2) : Rep K H2 (T ++ (ov1 ++ os2)) v1 d1 ov1 ∧ Rep K H2 (T ++ os2) v1 d1.fz [] := by
  have k := f.kp s1
  rw [List.append_assoc, List.append_assoc] at k
  have n1 := s1.nd
  have r2 := r.keep k fun a m q => (List.nodup_append.mp n1).2.2 a (List.mem_append_right _ m) a q rfl
  refine ⟨r2, r2.fz (fun a m => ?_) fun a m q => ?_⟩
  · simp only [List.mem_append] at m ⊢
    exact m.imp _root_.id .inr
  · have n2 := s2.nd
    rcases List.mem_append.mp q with q | q
    · exact (List.nodup_append.mp (List.nodup_append.mp n2).1).2.2 a q a m rfl
    · exact (List.nodup_append.mp n2).2.2 a (List.mem_append_right _ m) a q rfl
theorem two (s : SI K H T os σ ρ) (o1 : Out K σ T os H H1 ρ1 v1 d1 ov1 os1) (o2 : Out K σ (T ++ ov1) os1 H1 H2 ρ2 v2 d2 ov2 os2) :
    SI K H2 T os2 σ ρ2 ∧ Fr H os H2 os2 ∧ Rep K H2 (T ++ os2) v1 d1.fz [] ∧ Rep K H2 (T ++ os2) v2 d2.fz [] := by
  have s1 := o1.next s
  obtain ⟨s2, f2, r2⟩ := one s1 o2
  refine ⟨s2.lessT, (o1.drop s).2.trans f2, (held s1 o1.rv s2 f2).2, r2.sub fun a m => ?_⟩
  simp only [List.mem_append] at m ⊢
  rcases m with m | m
  · exact .inl (.inl m)
  · exact .inr m
end

/-! tests, argument lists -/
def tT (K : PySem.W.Frag) (ev : Ev) : TT := fun σ H Q => ∃ T os ρ b ρ', SI K H T os σ ρ ∧ ev ρ = some (.bl b, ρ') ∧
  ∀ H' os', SI K H' T os' σ ρ' → Fr H os H' os' → Q b H'
structure OutA (K : PySem.W.Frag) (σ : L2.St) (T os : List Addr) (H H' : Hp) (ρ' : Rho) (vs : List V) (ds : List D) (ov os' : List Addr) : Prop where
  rv : RepA K H' (T ++ (ov ++ os')) vs ds ov
  rs : RepS K H' (T ++ (ov ++ os')) σ ρ' os'
  nd : (T ++ (ov ++ os')).Nodup
  fr : Fr H os H' (ov ++ os')
abbrev EvA := Rho → Option (List D × Rho)
def tA (K : PySem.W.Frag) (ev : EvA) : TA := fun σ H Q => ∃ T os ρ ds ρ', SI K H T os σ ρ ∧ ev ρ = some (ds, ρ') ∧
  ∀ vs H' ov os', OutA K σ T os H H' ρ' vs ds ov os' → Q vs H'
theorem impT {X : Cx} {e : Expr} {t t' : TT} (h : PT X e t) (i : ∀ σ H Q, t' σ H Q → t σ H Q) : PT X e t' :=
  ⟨fun pins s σ H Q I q => h.run pins s σ H Q I (i σ H Q q)⟩
theorem impW {X : Cx} {e : Expr} {t t' : TT} (h : PW X e t) (i : ∀ σ H Q, t' σ H Q → t σ H Q) : PW X e t' :=
  ⟨fun wh pins s σ H Q I q => h.run wh pins s σ H Q I (i σ H Q q)⟩
theorem impA {X : Cx} {e : List Expr} {t t' : TA} (h : PA X e t) (i : ∀ σ H Q, t' σ H Q → t σ H Q) : PA X e t' :=
  ⟨fun pos pins s σ H Q I q => h.run pos pins s σ H Q I (i σ H Q q)⟩
section
variable {K : PySem.W.Frag} {H H1 H2 H' : Hp} {T t os os1 os2 ov ov1 ov2 : List Addr} {σ : L2.St} {ρ ρ1 ρ2 : Rho} {v v1 v2 : V} {d d1 d2 : D} {vs : List V} {ds : List D}
theorem OutA.drop (o : OutA K σ T os H H1 ρ1 vs ds ov os1) (s : SI K H T os σ ρ) : SI K H1 T os1 σ ρ1 ∧ Fr H os H1 os1 ∧ RepA K H1 (T ++ os1) vs (D.fzA ds) [] := by
  have n := List.nodup_append.mp o.nd
  have n2 := List.nodup_append.mp n.2.1
  have hs : ∀ a ∈ T ++ os1, a ∈ T ++ (ov ++ os1) := fun a m => by
    simp only [List.mem_append] at m ⊢
    exact m.imp _root_.id .inr
  refine ⟨⟨o.rs.sub hs, ?_, o.fr.trk s⟩, o.fr.less fun a m => List.mem_append_right _ m, o.rv.fz hs fun a m q => ?_⟩
  · exact o.nd.sublist (List.Sublist.append (List.Sublist.refl _) (List.sublist_append_right _ _))
  · rcases List.mem_append.mp q with q | q
    · exact n.2.2 a q a (List.mem_append_left _ m) rfl
    · exact n2.2.2 a m a q rfl
theorem OutA.next (o : OutA K σ T os H H' ρ1 vs ds ov os1) (s : SI K H T os σ ρ) : SI K H' (T ++ ov) os1 σ ρ1 := by
  refine ⟨by rw [List.append_assoc]; exact o.rs, by rw [List.append_assoc]; exact o.nd, fun a m => ?_⟩
  rcases List.mem_append.mp m with m | m
  · exact o.fr.trk s a m
  · intro e
    have := o.rv.mut a m
    rw [e] at this; exact this
theorem Out.cons (s : SI K H T os σ ρ) (o1 : Out K σ T os H H1 ρ1 v1 d1 ov1 os1) (o2 : OutA K σ (T ++ ov1) os1 H1 H2 ρ2 vs ds ov2 os2) : OutA K σ T os H H2 ρ2 (v1 :: vs) (d1 :: ds) (ov1 ++ ov2) os2 := by
  have s1 := o1.next s
  have e : T ++ (ov1 ++ ov2 ++ os2) = T ++ ov1 ++ (ov2 ++ os2) := by simp only [List.append_assoc]
  have k := o2.fr.kp s1
  have r1 := o1.rv.keep (by rw [List.append_assoc] at k; exact k) fun a m q => (List.nodup_append.mp s1.nd).2.2 a (List.mem_append_right _ m) a q rfl
  refine ⟨.cons (by rw [e]; exact r1) (by rw [e]; exact o2.rv), by rw [e]; exact o2.rs, by rw [e]; exact o2.nd, ?_⟩
  refine ⟨((o1.drop s).2.trans o2.fr).keep, fun a m => ?_⟩
  simp only [List.mem_append] at m
  have nb : ∀ b, H b ≠ none → b ∉ os → H1 b ≠ none ∧ b ∉ os1 := fun b h n => by
    refine ⟨by rw [o1.fr.keep b h n]; exact h, fun m => ?_⟩
    rcases o1.fr.sub b (List.mem_append_right _ m) with q | q
    · exact n q
    · exact h q
  rcases m with (m | m) | m
  · exact o1.fr.sub a (List.mem_append_left _ m)
  · by_cases h : H a = none
    · exact .inr h
    · by_cases ha : a ∈ os
      · exact .inl ha
      · obtain ⟨h1, h2⟩ := nb a h ha
        rcases o2.fr.sub a (List.mem_append_left _ m) with q | q
        · exact absurd q h2
        · exact absurd q h1
  · by_cases h : H a = none
    · exact .inr h
    · by_cases ha : a ∈ os
      · exact .inl ha
      · obtain ⟨h1, h2⟩ := nb a h ha
        rcases o2.fr.sub a (List.mem_append_right _ m) with q | q
        · exact absurd q h2
        · exact absurd q h1
/-- what an argument list leaves if there is none -/
theorem OutA.none (s : SI K H T os σ ρ) : OutA K σ T os H H ρ [] [] [] os := ⟨.nil, s.rs, s.nd, .refl fun _ m => m⟩
end

section
variable {X : Cx} {a b c : Expr} {ea eb ec : Ev} {pos : Pos} {C : Fn}
/-- the value of a test -/
theorem val_bl {K : PySem.W.Frag} {H : Hp} {O ov : List Addr} {v : V} {b : Bool} (r : Rep K H O v (.bl b) ov) : v = .bl b := by
  cases r; rfl
theorem pt_of {e : Expr} {ev : Ev} (h : PE X e (tI X.K ev)) (he : ∀ whole, isTrue e X.env whole = (do let v ← whole; standAt e.pos; holding [v] (truthy v))) : PT X e (tT X.K ev) := by
  refine impT (pt_val h he) fun σ H Q ⟨T, os, ρ, k, ρ', s, e1, q⟩ => ⟨T, os, ρ, .bl k, ρ', s, e1, fun v H' ov os' o => ?_⟩
  have := val_bl o.rv
  exact ⟨k, this, q H' os' (o.drop s).1 (o.drop s).2⟩

theorem r_var {i : Nat} {x : Str} (hN : X.N[i]? = some x) (hv : Vis X.env.scope x) (hd : (x == ("__debug__" : Str)) = false) (hc : (x == ("__classdict__" : Str)) = false) : PE X (.Name x pos) (tI X.K (den C (.var i))) := by
  refine imp (pe_var hN hv hd hc) fun σ H Q ⟨T, os, ρ, d, ρ', s, e, q⟩ => ?_
  rw [den] at e
  obtain ⟨d0, e0, e⟩ := Option.bind_eq_some_iff.mp e
  have e1 : ρ[i]? = some (some d0) := by
    unfold getV at e0
    cases h : ρ[i]? with
    | none => rw [h] at e0; cases e0
    | some y => rw [h] at e0; exact congrArg some e0
  obtain ⟨v, pre, oi, post, h1, h2, h3, h4⟩ := s.rs.split e1
  refine ⟨v, h1, ?_⟩
  have hiσ : i < σ.length := by rw [s.rs.length]; exact (List.getElem?_eq_some_iff.mp e1).1
  have hset : σ.set i (some v) = σ := by
    have := (List.getElem?_eq_some_iff.mp h1).2
    rw [← this]; exact List.set_getElem_self hiσ
  cases hw : d0.isOwn with
  | false =>
    rw [hw] at e
    simp only [Bool.false_eq_true, if_false, Option.some.injEq, Prod.mk.injEq] at e
    obtain ⟨rfl, rfl⟩ := e
    have ho := h3.nown hw
    subst ho
    exact q v H [] os ⟨h3, s.rs, s.nd, .refl fun a m => m⟩
  | true =>
    rw [hw] at e
    simp only [if_true, Option.some.injEq, Prod.mk.injEq] at e
    obtain ⟨rfl, rfl⟩ := e
    subst h2
    have n := s.nd
    have hs : ∀ a ∈ T ++ (pre ++ post), a ∈ T ++ (pre ++ (oi ++ post)) := fun a m => by
      simp only [List.mem_append] at m ⊢
      rcases m with m | m | m
      · exact .inl m
      · exact .inr (.inl m)
      · exact .inr (.inr (.inr m))
    have hn : ∀ a ∈ oi, a ∉ T ++ (pre ++ post) := fun a m q => by
      rw [List.nodup_append] at n
      obtain ⟨n1, n2, n3⟩ := n
      rw [List.nodup_append] at n2
      obtain ⟨m1, m2, m3⟩ := n2
      rw [List.nodup_append] at m2
      simp only [List.mem_append] at q
      rcases q with q | q | q
      · exact n3 a q a (by simp [m]) rfl
      · exact m3 a q a (by simp [m]) rfl
      · exact m2.2.2 a m a q rfl
    have r2 := h3.fz hs hn
    have rs := h4 H (T ++ (pre ++ post)) v d0.fz [] r2 fun w e ow r m => r.sub hs
    rw [hset] at rs
    refine q v H [] (pre ++ post) ⟨r2, rs, ?_, .refl fun a m => ?_⟩
    · show (T ++ (pre ++ post)).Nodup
      exact n.sublist (List.Sublist.append (List.Sublist.refl _) (List.Sublist.append (List.Sublist.refl _) (List.sublist_append_right _ _)))
    · simp only [List.nil_append, List.mem_append] at m ⊢
      rcases m with m | m
      · exact .inl m
      · exact .inr (.inr m)
theorem r_con_int {i : Int} {j : Nat} : PE X (.Constant (.int i) j pos) (tI X.K (den C (.con (.int i)))) := by
  refine imp pe_int fun σ H Q ⟨T, os, ρ, d, ρ', s, e, q⟩ => ?_
  rw [den] at e; cases e
  exact q _ H [] os (fin s (.refl fun a m => m) (.same (.int i)))
theorem r_con_bl {i : Bool} {j : Nat} : PE X (.Constant (.bool i) j pos) (tI X.K (den C (.con (.bl i)))) := by
  refine imp pe_bl fun σ H Q ⟨T, os, ρ, d, ρ', s, e, q⟩ => ?_
  rw [den] at e; cases e
  exact q _ H [] os (fin s (.refl fun a m => m) (.same (.bl i)))
theorem r_con_str {i : Str} {j : Nat} : PE X (.Constant (.str i) j pos) (tI X.K (den C (.con (.str i)))) := by
  refine imp pe_str fun σ H Q ⟨T, os, ρ, d, ρ', s, e, q⟩ => ?_
  rw [den] at e; cases e
  exact q _ H [] os (fin s (.refl fun a m => m) (.same (.str i)))
theorem r_con_non {j : Nat} : PE X (.Constant .none j pos) (tI X.K (den C (.con .non))) := by
  refine imp pe_non fun σ H Q ⟨T, os, ρ, d, ρ', s, e, q⟩ => ?_
  rw [den] at e; cases e
  exact q _ H [] os (fin s (.refl fun a m => m) (.same .non))
def BO.op : BO → Operator
  | .add => .Add
  | .sub => .Sub
  | .mul => .Mult
  | .mod => .Mod
  | .fdiv => .FloorDiv
  | .pow => .Pow
  | .band => .BitAnd
  | .bor => .BitOr
  | .shl => .LShift
  | .shr => .RShift
def CO.op : CO → CmpOp
  | .eq => .Eq
  | .ne => .NotEq
  | .lt => .Lt
  | .le => .LtE
  | .gt => .Gt
  | .ge => .GtE
  | .is => .Is
  | .isn => .IsNot
  | .inn => .In
  | .nin => .NotIn
theorem boR : ∀ o : BO, OpR X (binaryOp o.op) (rDo X.K (boD o))
  | .add => op_addD
  | .sub => op_subD
  | .mul => op_mulD
  | .mod => op_modD
  | .fdiv => op_fdivD
  | .pow => op_powD
  | .band => op_bandD
  | .bor => op_borD
  | .shl => op_shlD
  | .shr => op_shrD
theorem coR (hu : X.A.units + 65 < cLine) : ∀ o : CO, OpR X (compareOp o.op) (rDc X.K (coD o))
  | .eq => op_eqB (by omega)
  | .ne => op_neB (by omega)
  | .lt => op_ltD
  | .le => op_leD
  | .gt => op_gtD
  | .ge => op_geD
  | .is => op_isB
  | .isn => op_isnB
  | .inn => op_inB hu
  | .nin => op_ninB hu
theorem r_bin {op : Operator} {f : D → D → Option D} (ho : OpR X (binaryOp op) (rDo X.K f)) (ha : PE X a (tI X.K ea)) (hb : PE X b (tI X.K eb)) :
    PE X (.BinOp a op b pos) (tI X.K fun ρ => (ea ρ).bind fun p => (eb p.2).bind fun q => (f p.1.fz q.1.fz).bind fun d => some (d, q.2)) := by
  refine imp (pe_op ho ha hb) fun σ H Q ⟨T, os, ρ, d, ρ', s, e, q⟩ => ?_
  obtain ⟨p1, e1, e⟩ := Option.bind_eq_some_iff.mp e
  obtain ⟨p2, e2, e⟩ := Option.bind_eq_some_iff.mp e
  obtain ⟨d3, e3, e⟩ := Option.bind_eq_some_iff.mp e
  cases e
  refine ⟨T, os, ρ, p1.1, p1.2, s, e1, fun v1 H1 ov1 os1 o1 => ⟨T ++ ov1, os1, p1.2, p2.1, p2.2, o1.next s, e2, fun v2 H2 ov2 os2 o2 => ?_⟩⟩
  obtain ⟨s2, f2, r1, r2⟩ := two s o1 o2
  exact ⟨T ++ os2, p1.1.fz, p2.1.fz, d, r1, r2, e3, fun v H' ov pr => q v H' ov os2 (fin s2 f2 pr)⟩
theorem r_neg (ha : PE X a (tI X.K ea)) : PE X (.UnaryOp .USub a pos) (tI X.K fun ρ => (ea ρ).bind fun p => match p.1 with
    | .int i => some (.int (-i), p.2)
    | _ => none) := by
  refine imp (pe_un un_neg ha) fun σ H Q ⟨T, os, ρ, d, ρ', s, e, q⟩ => ?_
  obtain ⟨p1, e1, e⟩ := Option.bind_eq_some_iff.mp e
  refine ⟨T, os, ρ, p1.1, p1.2, s, e1, fun v1 H1 ov1 os1 o1 => ?_⟩
  obtain ⟨s1, f1, r1⟩ := one s o1
  split at e
  · rename_i i h
    cases e
    rw [h] at r1
    have rv := o1.rv
    rw [h] at rv
    cases rv
    exact ⟨i, rfl, q _ H1 [] os1 (fin s1 f1 (.same (.int _)))⟩
  · cases e
theorem r_not (ha : PE X a (tI X.K ea)) : PE X (.UnaryOp .Not a pos) (tI X.K fun ρ => (ea ρ).bind fun p => match p.1 with
    | .bl b => some (.bl (!b), p.2)
    | _ => none) := by
  refine imp (pe_not ha) fun σ H Q ⟨T, os, ρ, d, ρ', s, e, q⟩ => ?_
  obtain ⟨p1, e1, e⟩ := Option.bind_eq_some_iff.mp e
  refine ⟨T, os, ρ, p1.1, p1.2, s, e1, fun v1 H1 ov1 os1 o1 => ?_⟩
  obtain ⟨s1, f1, r1⟩ := one s o1
  split at e
  · rename_i i h
    cases e
    have rv := o1.rv
    rw [h] at rv
    cases rv
    exact ⟨i, rfl, q _ H1 [] os1 (fin s1 f1 (.same (.bl _)))⟩
  · cases e
theorem r_notT (ha : PT X a (tT X.K ea)) : PT X (.UnaryOp .Not a pos) (tT X.K fun ρ => (ea ρ).bind fun p => match p.1 with
    | .bl b => some (.bl (!b), p.2)
    | _ => none) := by
  refine impT (pt_not ha) fun σ H Q ⟨T, os, ρ, k, ρ', s, e, q⟩ => ?_
  obtain ⟨⟨d, r⟩, e1, e⟩ := Option.bind_eq_some_iff.mp e
  cases d with
  | bl i =>
    cases e
    exact ⟨T, os, ρ, i, r, s, e1, fun H1 os1 s1 f1 => q H1 os1 s1 f1⟩
  | _ => cases e
abbrev evAnd (ea eb : Ev) : Ev := fun ρ => (ea ρ).bind fun p => match p.1 with
    | .bl true => eb p.2
    | .bl false => some (.bl false, p.2)
    | _ => none
abbrev evOr (ea eb : Ev) : Ev := fun ρ => (ea ρ).bind fun p => match p.1 with
    | .bl true => some (.bl true, p.2)
    | .bl false => eb p.2
    | _ => none
abbrev evIf (ec ea eb : Ev) : Ev := fun ρ => (ec ρ).bind fun p => match p.1 with
    | .bl true => ea p.2
    | .bl false => eb p.2
    | _ => none
theorem r_and {rest : List Expr} (ha : PE X a (tI X.K ea)) (hb : PE X (.BoolOp .And (b :: rest) pos) (tI X.K eb)) : PE X (.BoolOp .And (a :: b :: rest) pos) (tI X.K (evAnd ea eb)) := by
  refine imp (pe_and ha hb) fun σ H Q ⟨T, os, ρ, d, ρ', s, e, q⟩ => ?_
  obtain ⟨⟨d1, r1⟩, e1, e⟩ := Option.bind_eq_some_iff.mp e
  refine ⟨T, os, ρ, d1, r1, s, e1, fun v1 H1 ov1 os1 o1 => ?_⟩
  obtain ⟨s1, f1, _⟩ := one s o1
  cases d1 with
  | bl k =>
    have hv := val_bl o1.rv
    subst hv
    cases k with
    | true => exact ⟨true, rfl, iteT ⟨T, os1, r1, d, ρ', s1, e, fun v H' ov os' o => q v H' ov os' ⟨o.rv, o.rs, o.nd, f1.trans o.fr⟩⟩⟩
    | false =>
      cases e
      exact ⟨false, rfl, iteF (q _ H1 [] os1 (fin s1 f1 (.same (.bl _))))⟩
  | _ => cases e
theorem r_or {rest : List Expr} (ha : PE X a (tI X.K ea)) (hb : PE X (.BoolOp .Or (b :: rest) pos) (tI X.K eb)) : PE X (.BoolOp .Or (a :: b :: rest) pos) (tI X.K (evOr ea eb)) := by
  refine imp (pe_or ha hb) fun σ H Q ⟨T, os, ρ, d, ρ', s, e, q⟩ => ?_
  obtain ⟨⟨d1, r1⟩, e1, e⟩ := Option.bind_eq_some_iff.mp e
  refine ⟨T, os, ρ, d1, r1, s, e1, fun v1 H1 ov1 os1 o1 => ?_⟩
  obtain ⟨s1, f1, _⟩ := one s o1
  cases d1 with
  | bl k =>
    have hv := val_bl o1.rv
    subst hv
    cases k with
    | false => exact ⟨false, rfl, iteF ⟨T, os1, r1, d, ρ', s1, e, fun v H' ov os' o => q v H' ov os' ⟨o.rv, o.rs, o.nd, f1.trans o.fr⟩⟩⟩
    | true =>
      cases e
      exact ⟨true, rfl, iteT (q _ H1 [] os1 (fin s1 f1 (.same (.bl _))))⟩
  | _ => cases e
theorem r_andW {rest : List Expr} (ha : PT X a (tT X.K ea)) (hb : PW X (.BoolOp .And (b :: rest) pos) (tT X.K eb)) : PW X (.BoolOp .And (a :: b :: rest) pos) (tT X.K (evAnd ea eb)) := by
  refine impW (pw_and ha hb) fun σ H Q ⟨T, os, ρ, k, ρ', s, e, q⟩ => ?_
  obtain ⟨⟨d1, r1⟩, e1, e⟩ := Option.bind_eq_some_iff.mp e
  cases d1 with
  | bl i =>
    refine ⟨T, os, ρ, i, r1, s, e1, fun H1 os1 s1 f1 => ?_⟩
    cases i with
    | true => exact iteT ⟨T, os1, r1, k, ρ', s1, e, fun H2 os2 s2 f2 => q H2 os2 s2 (f1.trans f2)⟩
    | false =>
      cases e
      exact iteF (q H1 os1 s1 f1)
  | _ => cases e
theorem r_orW {rest : List Expr} (ha : PT X a (tT X.K ea)) (hb : PW X (.BoolOp .Or (b :: rest) pos) (tT X.K eb)) : PW X (.BoolOp .Or (a :: b :: rest) pos) (tT X.K (evOr ea eb)) := by
  refine impW (pw_or ha hb) fun σ H Q ⟨T, os, ρ, k, ρ', s, e, q⟩ => ?_
  obtain ⟨⟨d1, r1⟩, e1, e⟩ := Option.bind_eq_some_iff.mp e
  cases d1 with
  | bl i =>
    refine ⟨T, os, ρ, i, r1, s, e1, fun H1 os1 s1 f1 => ?_⟩
    cases i with
    | false => exact iteF ⟨T, os1, r1, k, ρ', s1, e, fun H2 os2 s2 f2 => q H2 os2 s2 (f1.trans f2)⟩
    | true =>
      cases e
      exact iteT (q H1 os1 s1 f1)
  | _ => cases e
theorem r_ifx (hc : PT X c (tT X.K ec)) (ha : PE X a (tI X.K ea)) (hb : PE X b (tI X.K eb)) : PE X (.IfExp c a b pos) (tI X.K (evIf ec ea eb)) := by
  refine imp (pe_ifExp hc ha hb) fun σ H Q ⟨T, os, ρ, d, ρ', s, e, q⟩ => ?_
  obtain ⟨⟨d1, r1⟩, e1, e⟩ := Option.bind_eq_some_iff.mp e
  cases d1 with
  | bl i =>
    refine ⟨T, os, ρ, i, r1, s, e1, fun H1 os1 s1 f1 => ?_⟩
    cases i with
    | true => exact iteT ⟨T, os1, r1, d, ρ', s1, e, fun v H' ov os' o => q v H' ov os' ⟨o.rv, o.rs, o.nd, f1.trans o.fr⟩⟩
    | false => exact iteF ⟨T, os1, r1, d, ρ', s1, e, fun v H' ov os' o => q v H' ov os' ⟨o.rv, o.rs, o.nd, f1.trans o.fr⟩⟩
  | _ => cases e
/-- a comparison -/
abbrev evCmp (f : D → D → Option Bool) (ea eb : Ev) : Ev := fun ρ => (ea ρ).bind fun p => (eb p.2).bind fun q => (f p.1.fz q.1.fz).bind fun k => some (.bl k, q.2)
theorem t_cmp {f : D → D → Option Bool} {σ : L2.St} {H : Hp} {Q : VK} {Qb : Bool → Hp → Prop} (hq : ∀ k H', Qb k H' → Q (.bl k) H')
    (h : ∃ T os ρ b ρ', SI X.K H T os σ ρ ∧ evCmp f ea eb ρ = some (.bl b, ρ') ∧ ∀ H' os', SI X.K H' T os' σ ρ' → Fr H os H' os' → Qb b H') : tOp (rDc X.K f) (tI X.K ea) (tI X.K eb) σ H Q := by
  obtain ⟨T, os, ρ, k, ρ', s, e, q⟩ := h
  obtain ⟨p1, e1, e⟩ := Option.bind_eq_some_iff.mp e
  obtain ⟨p2, e2, e⟩ := Option.bind_eq_some_iff.mp e
  obtain ⟨d3, e3, e⟩ := Option.bind_eq_some_iff.mp e
  cases e
  refine ⟨T, os, ρ, p1.1, p1.2, s, e1, fun v1 H1 ov1 os1 o1 => ⟨T ++ ov1, os1, p1.2, p2.1, p2.2, o1.next s, e2, fun v2 H2 ov2 os2 o2 => ?_⟩⟩
  obtain ⟨s2, f2, r1, r2⟩ := two s o1 o2
  exact ⟨T ++ os2, p1.1.fz, p2.1.fz, k, r1, r2, e3, hq _ _ (q H2 os2 s2 f2)⟩
theorem r_cmp {op : CmpOp} {f : D → D → Option Bool} (ho : OpR X (compareOp op) (rDc X.K f)) (ha : PE X a (tI X.K ea)) (hb : PE X b (tI X.K eb)) (hm : behindInMarks op b = false) : PE X (.Compare a [op] [b] pos) (tI X.K (evCmp f ea eb)) := by
  refine imp (pe_cmpR ho ha hb hm) fun σ H Q ⟨T, os, ρ, d, ρ', s, e, q⟩ => ?_
  have hd : ∃ k, d = .bl k := by
    obtain ⟨p1, e1, e⟩ := Option.bind_eq_some_iff.mp e
    obtain ⟨p2, e2, e⟩ := Option.bind_eq_some_iff.mp e
    obtain ⟨d3, e3, e⟩ := Option.bind_eq_some_iff.mp e
    cases e; exact ⟨_, rfl⟩
  obtain ⟨k, rfl⟩ := hd
  exact t_cmp (Qb := fun k H' => Q (.bl k) H') (fun _ _ z => z) ⟨T, os, ρ, k, ρ', s, e, fun H' os' s' f' => q _ H' [] os' (fin s' f' (.same (.bl _)))⟩
theorem r_cmpT {op : CmpOp} {f : D → D → Option Bool} (ho : OpR X (compareOp op) (rDc X.K f)) (ha : PE X a (tI X.K ea)) (hb : PE X b (tI X.K eb)) (hm : behindInMarks op b = false) : PT X (.Compare a [op] [b] pos) (tT X.K (evCmp f ea eb)) := by
  refine impT (pt_cmpR ho ha hb hm) fun σ H Q ⟨T, os, ρ, k, ρ', s, e, q⟩ => ?_
  exact t_cmp (Qb := fun k H' => Q k H') (fun k H' z => ⟨k, rfl, z⟩) ⟨T, os, ρ, k, ρ', s, e, q⟩
/-! argument lists, displays -/
theorem r_nil : PA X [] (tA X.K (denA C .nil)) := by
  refine impA pa_nil fun σ H Q ⟨T, os, ρ, ds, ρ', s, e, q⟩ => ?_
  rw [denA] at e; cases e
  exact q [] H [] os (.none s)
theorem r_cons {es : List Expr} {ev : EvA} (ha : PE X a (tI X.K ea)) (hr : PA X es (tA X.K ev)) (hs : starEach (a :: es) X.env = (false, eval a X.env) :: starEach es X.env) :
    PA X (a :: es) (tA X.K fun ρ => (ea ρ).bind fun p => (ev p.2).bind fun q => some (p.1 :: q.1, q.2)) := by
  refine impA (pa_cons ha hr hs) fun σ H Q ⟨T, os, ρ, ds, ρ', s, e, q⟩ => ?_
  obtain ⟨p1, e1, e⟩ := Option.bind_eq_some_iff.mp e
  obtain ⟨p2, e2, e⟩ := Option.bind_eq_some_iff.mp e
  cases e
  exact ⟨T, os, ρ, p1.1, p1.2, s, e1, fun v1 H1 ov1 os1 o1 => ⟨T ++ ov1, os1, p1.2, p2.1, p2.2, o1.next s, e2, fun vs H2 ov2 os2 o2 => q _ H2 _ os2 (Out.cons s o1 o2)⟩⟩
theorem r_tup {es : List Expr} {ev : EvA} {x1 : Nat} (h : PA X es (tA X.K ev)) : PE X (.Tuple es x1 pos) (tI X.K fun ρ => (ev ρ).bind fun p => if p.1.length ≤ lim then some (.tup (D.fzA p.1), p.2) else none) := by
  refine imp (pe_tup h) fun σ H Q ⟨T, os, ρ, d, ρ', s, e, q⟩ => ?_
  obtain ⟨p1, e1, e⟩ := Option.bind_eq_some_iff.mp e
  split at e <;> cases e
  rename_i hz
  refine ⟨T, os, ρ, p1.1, p1.2, s, e1, fun vs H1 ov os1 o => ⟨lim_le (by rw [o.rv.length]; exact hz), fun p hp => ?_⟩⟩
  obtain ⟨s1, f1, r1⟩ := o.drop s
  exact q _ _ _ os1 (fin s1 f1 (.tup hp r1))
/-- a new list that holds what is handed in, as it is -/
theorem newlist {K : PySem.W.Frag} {σ : L2.St} {T os ov os1 : List Addr} {H H1 : Hp} {ρ ρ1 : Rho} {vs : List V} {ds : List D} {p : Addr} (s : SI K H T os σ ρ) (o : OutA K σ T os H H1 ρ1 vs ds ov os1) (hp : H1 p = none) :
    Out K σ T os H (upd H1 p (.lst vs)) ρ1 (.ref p) (.lst true ds) (p :: ov) os1 := by
  have s1 := o.next s
  have np : p ∉ T ++ (ov ++ os1) := fun m => by
    rcases List.mem_append.mp m with m | m
    · exact o.fr.trk s p m hp
    · rcases List.mem_append.mp m with m | m
      · have := o.rv.mut p m; rw [hp] at this; exact this
      · have := o.rs.mut p m; rw [hp] at this; exact this
  have k : Kp H1 (T ++ (ov ++ os1)) [] (upd H1 p (.lst vs)) (T ++ (p :: ov ++ os1)) := kp_new hp fun a m => by
    simp only [List.mem_append, List.mem_cons] at m ⊢
    rcases m with m | (m | m) | m
    · exact .inl (.inl m)
    · exact .inr m
    · exact .inl (.inr (.inl m))
    · exact .inl (.inr (.inr m))
  refine ⟨.ow upd_same (o.rv.keep k fun _ _ m => nomatch m), o.rs.keep k (fun _ _ m => nomatch m), ?_, ⟨fun a h n => ?_, fun a m => ?_⟩⟩
  · have := o.nd
    rw [List.nodup_append] at this ⊢
    refine ⟨this.1, ?_, fun a ha b hb e => ?_⟩
    · show (p :: (ov ++ os1)).Nodup
      exact List.nodup_cons.mpr ⟨fun m => np (List.mem_append_right _ m), this.2.1⟩
    · subst e
      rcases List.mem_cons.mp (show a ∈ p :: (ov ++ os1) from hb) with e | hb
      · exact np (e ▸ List.mem_append_left _ ha)
      · exact this.2.2 a ha a hb rfl
  · have h1 : H1 a ≠ none := by rw [o.fr.keep a h n]; exact h
    rw [upd_keep hp a h1, o.fr.keep a h n]
  · rcases List.mem_cons.mp (show a ∈ p :: (ov ++ os1) from m) with e | m
    · by_cases h : H a = none
      · exact .inr h
      · by_cases ha : a ∈ os
        · exact .inl ha
        · have := o.fr.keep a h ha
          rw [e, hp] at this
          exact absurd (e ▸ this.symm) h
    · exact o.fr.sub a m
theorem r_lst {es : List Expr} {ev : EvA} (h : PA X es (tA X.K ev)) : PE X (.List es pos) (tI X.K fun ρ => (ev ρ).bind fun p => if p.1.length ≤ lim then some (.lst true p.1, p.2) else none) := by
  refine imp (pe_lst h) fun σ H Q ⟨T, os, ρ, d, ρ', s, e, q⟩ => ?_
  obtain ⟨p1, e1, e⟩ := Option.bind_eq_some_iff.mp e
  split at e <;> cases e
  rename_i hz
  exact ⟨T, os, ρ, p1.1, p1.2, s, e1, fun vs H1 ov os1 o => ⟨lim_le (by rw [o.rv.length]; exact hz), fun p hp => q _ _ _ os1 (newlist s o hp)⟩⟩
end
end Rr

namespace Rr
open PySem PySem.Spec L2

section
variable {K : PySem.W.Frag} {H : Hp} {O : List Addr}
/-- what stands at a place of a frozen list or tuple -/
theorem rep_at {v : V} {d e : D} {k : Int} (r : Rep K H O v d []) (h : itemD d (.int k) = some e) : ∃ a vs w, v = .ref a ∧ (H a = some (.lst vs) ∨ H a = some (.tup vs)) ∧ atI vs k = some w ∧ Rep K H O w e [] := by
  have go : ∀ {vs : List V} {ds : List D}, RepA K H O vs ds [] → atI ds k = some e → ∃ w, atI vs k = some w ∧ Rep K H O w e [] := fun {vs ds} q h => by
    unfold atI at h ⊢
    rw [q.length]
    obtain ⟨n, h1, h2⟩ := Option.bind_eq_some_iff.mp h
    obtain ⟨w, h3, h4⟩ := q.nils n e h2
    exact ⟨w, by rw [h1]; exact h3, h4⟩
  generalize ho : ([] : List Addr) = o at r
  unfold itemD at h
  cases r with
  | tup h1 q =>
    obtain ⟨w, a1, a2⟩ := go q h
    exact ⟨_, _, w, rfl, .inr h1, a1, ho ▸ a2⟩
  | fr h1 _ q =>
    obtain ⟨w, a1, a2⟩ := go q h
    exact ⟨_, _, w, rfl, .inl h1, a1, ho ▸ a2⟩
  | ow _ _ => cases ho
  | _ => cases h
/-- the same of any list, the item not owned -/
theorem rep_at_any {v : V} {d e : D} {k : Int} {o : List Addr} (r : Rep K H O v d o) (h : itemD d (.int k) = some e) (n : e.isOwn = false) : ∃ a vs w, v = .ref a ∧ (H a = some (.lst vs) ∨ H a = some (.tup vs)) ∧ atI vs k = some w ∧ Rep K H O w e [] := by
  have go : ∀ {vs : List V} {ds : List D} {o : List Addr}, RepA K H O vs ds o → atI ds k = some e → ∃ w, atI vs k = some w ∧ Rep K H O w e [] := fun {vs ds o} q h => by
    unfold atI at h ⊢
    rw [q.length]
    obtain ⟨m, h1, h2⟩ := Option.bind_eq_some_iff.mp h
    obtain ⟨w, pre, oi, post, h3, _, h4, _⟩ := q.get h2
    have e0 := h4.nown n
    subst e0
    exact ⟨w, by rw [h1]; exact h3, h4⟩
  unfold itemD at h
  cases r with
  | tup h1 q =>
    obtain ⟨w, a1, a2⟩ := go q h
    exact ⟨_, _, w, rfl, .inr h1, a1, a2⟩
  | fr h1 _ q =>
    obtain ⟨w, a1, a2⟩ := go q h
    exact ⟨_, _, w, rfl, .inl h1, a1, a2⟩
  | ow h1 q =>
    obtain ⟨w, a1, a2⟩ := go q h
    exact ⟨_, _, w, rfl, .inl h1, a1, a2⟩
  | _ => cases h
theorem ix_of {a : Addr} {vs : List V} {k : Int} {w : V} {Q : VK} (h : H a = some (.lst vs) ∨ H a = some (.tup vs)) (e : atI vs k = some w) (q : Q w H) : rIx K (.ref a) (.int k) H Q := by
  rcases h with h | h
  · exact .inl ⟨a, vs, k, w, rfl, rfl, SqL.of h, e, q⟩
  · exact .inr (.inl ⟨a, vs, k, w, rfl, rfl, SqT.of h, e, q⟩)
theorem getV_some {ρ : Rho} {j : Nat} {d : D} (h : getV ρ j = some d) : ρ[j]? = some (some d) := by
  unfold getV at h
  cases e : ρ[j]? with
  | none => rw [e] at h; cases h
  | some y => rw [e] at h; exact congrArg some h
theorem ownL_some {ρ : Rho} {j : Nat} {xs : List D} (h : ownL ρ j = some xs) : ρ[j]? = some (some (.lst true xs)) := by
  unfold ownL at h
  split at h
  · cases h; assumption
  · cases h
theorem item_int {x i d : D} (h : itemD x i = some d) : ∃ k, i = .int k := by
  unfold itemD at h
  split at h
  · exact ⟨_, rfl⟩
  · exact ⟨_, rfl⟩
  · cases h
end

section
variable {X : Cx} {a b c : Expr} {ea eb ec : Ev} {pos : Pos} {C : Fn}
theorem r_sub (ha : PE X a (tI X.K ea)) (hb : PE X b (tI X.K eb)) (hs : PlainIx b) :
    PE X (.Subscript a b pos) (tI X.K fun ρ => (ea ρ).bind fun p => (eb p.2).bind fun q => (itemD p.1.fz q.1).bind fun d => some (d, q.2)) := by
  refine imp (pe_ix ix_seq ha hb hs) fun σ H Q ⟨T, os, ρ, d, ρ', s, e, q⟩ => ?_
  obtain ⟨p1, e1, e⟩ := Option.bind_eq_some_iff.mp e
  obtain ⟨p2, e2, e⟩ := Option.bind_eq_some_iff.mp e
  obtain ⟨d3, e3, e⟩ := Option.bind_eq_some_iff.mp e
  cases e
  refine ⟨T, os, ρ, p1.1, p1.2, s, e1, fun v1 H1 ov1 os1 o1 => ⟨T ++ ov1, os1, p1.2, p2.1, p2.2, o1.next s, e2, fun v2 H2 ov2 os2 o2 => ?_⟩⟩
  obtain ⟨s2, f2, r1, r2⟩ := two s o1 o2
  obtain ⟨k, hk⟩ := item_int e3
  have rv := o2.rv
  rw [hk] at e3 rv
  cases rv
  obtain ⟨ad, vs, w, rfl, hH, hw, rw'⟩ := rep_at r1 e3
  exact ix_of hH hw (q w H2 [] os2 (fin s2 f2 (.same rw')))
theorem r_sbv {j : Nat} {x : Str} {p : Pos} (hN : X.N[j]? = some x) (hv : Vis X.env.scope x) (hd : (x == ("__debug__" : Str)) = false) (hc : (x == ("__classdict__" : Str)) = false) (hb : PE X b (tI X.K eb)) (hs : PlainIx b) :
    PE X (.Subscript (.Name x p) b pos) (tI X.K fun ρ => (getV ρ j).bind fun _ => (eb ρ).bind fun q => (getV q.2 j).bind fun x => (itemD x q.1).bind fun d => if d.isOwn then none else some (d, q.2)) := by
  refine imp (pe_ix ix_seq (pe_var hN hv hd hc) hb hs) fun σ H Q ⟨T, os, ρ, d, ρ', s, e, q⟩ => ?_
  obtain ⟨x0, e0, e⟩ := Option.bind_eq_some_iff.mp e
  obtain ⟨p2, e2, e⟩ := Option.bind_eq_some_iff.mp e
  obtain ⟨x1, e3, e⟩ := Option.bind_eq_some_iff.mp e
  obtain ⟨d3, e4, e⟩ := Option.bind_eq_some_iff.mp e
  have hn : d3.isOwn = false := by
    cases h : d3.isOwn with
    | false => rfl
    | true => rw [h] at e; cases e
  rw [hn] at e
  cases e
  obtain ⟨v, _, _, _, h1, _⟩ := s.rs.split (getV_some e0)
  refine ⟨v, h1, T, os, ρ, p2.1, p2.2, s, e2, fun v2 H2 ov2 os2 o2 => ?_⟩
  obtain ⟨s2, f2, r2⟩ := one s o2
  obtain ⟨k, hk⟩ := item_int e4
  have rv := o2.rv
  rw [hk] at e4 rv
  cases rv
  obtain ⟨v', pre, oi, post, h1', _, r3, _⟩ := s2.rs.split (getV_some e3)
  rw [h1] at h1'
  cases h1'
  obtain ⟨ad, vs, w, rfl, hH, hw, rw'⟩ := rep_at_any r3 e4 hn
  exact ix_of hH hw (q w H2 [] os2 (fin s2 f2 (.same rw')))
/-! slices -/
def tO (K : PySem.W.Frag) (ev : Rho → Option (Option Int × Rho)) : TO := fun σ H Q => ∃ T os ρ o ρ', SI K H T os σ ρ ∧ ev ρ = some (o, ρ') ∧
  ∀ H' os', SI K H' T os' σ ρ' → Fr H os H' os' → Q o H'
theorem impO {e : Option Expr} {t t' : TO} (h : PO X e t) (i : ∀ σ H Q, t' σ H Q → t σ H Q) : PO X e t' :=
  ⟨fun pins s σ H Q I q => h.run pins s σ H Q I (i σ H Q q)⟩
theorem r_ono : PO X none (tO X.K (denO C .no)) := by
  refine impO po_none fun σ H Q ⟨T, os, ρ, o, ρ', s, e, q⟩ => ?_
  rw [denO] at e; cases e
  exact q H os s (.refl fun a m => m)
theorem r_oso (ha : PE X a (tI X.K ea)) : PO X (some a) (tO X.K fun ρ => (ea ρ).bind fun p => match p.1 with
    | .int i => some (some i, p.2)
    | _ => none) := by
  refine impO (po_some ha) fun σ H Q ⟨T, os, ρ, o, ρ', s, e, q⟩ => ?_
  obtain ⟨⟨d1, r1⟩, e1, e⟩ := Option.bind_eq_some_iff.mp e
  refine ⟨T, os, ρ, d1, r1, s, e1, fun v1 H1 ov1 os1 o1 => ?_⟩
  cases d1 with
  | int i =>
    cases e
    have rv := o1.rv
    cases rv
    exact ⟨i, rfl, q H1 os1 (o1.drop s).1 (o1.drop s).2⟩
  | _ => cases e
theorem RepA.cut {K : PySem.W.Frag} {H : Hp} {O : List Addr} {vs : List V} {ds : List D} (r : RepA K H O vs ds []) (lo hi : Option Int) : RepA K H O (cutV vs lo hi) (cutD ds lo hi) [] := by
  unfold cutV cutD
  rw [r.length]
  exact (r.drop _).take _
theorem cutD_whole {ds : List D} {lo hi : Option Int} (h : HT.sIx ds.length 0 lo = 0 ∧ HT.sIx ds.length ds.length hi = ds.length) : cutD ds lo hi = ds := by
  unfold cutD
  rw [h.1, h.2]
  simp
theorem reps_ints {K : PySem.W.Frag} {H : Hp} {O : List Addr} : ∀ ns : List Int, RepA K H O (ns.map V.int) (ns.map D.int) []
  | [] => .nil
  | n :: ns => by
    have := RepA.cons (K := K) (H := H) (O := O) (.int n) (reps_ints ns)
    exact this
theorem r_slice {lo hi : Option Expr} {el eh : Rho → Option (Option Int × Rho)} {p2 : Pos} (ha : PE X a (tI X.K ea)) (hl : PO X lo (tO X.K el)) (hh : PO X hi (tO X.K eh)) :
    PE X (.Subscript a (.Slice lo hi none p2) pos) (tI X.K fun ρ => (ea ρ).bind fun p => (el p.2).bind fun q => (eh q.2).bind fun r => (sliceD p.1.fz q.1 r.1).bind fun d => some (d, r.2)) := by
  refine imp (pe_slice (SlR.or sl_list sl_tupA) ha hl hh) fun σ H Q ⟨T, os, ρ, d, ρ', s, e, q⟩ => ?_
  obtain ⟨p1, e1, e⟩ := Option.bind_eq_some_iff.mp e
  obtain ⟨p2, e2, e⟩ := Option.bind_eq_some_iff.mp e
  obtain ⟨p3, e3, e⟩ := Option.bind_eq_some_iff.mp e
  obtain ⟨d3, e4, e⟩ := Option.bind_eq_some_iff.mp e
  cases e
  refine ⟨T, os, ρ, p1.1, p1.2, s, e1, fun v1 H1 ov1 os1 o1 => ⟨T ++ ov1, os1, p1.2, p2.1, p2.2, o1.next s, e2, fun H2 os2 s2 f2 => ⟨T ++ ov1, os2, p2.2, p3.1, p3.2, s2, e3, fun H3 os3 s3 f3 => ?_⟩⟩⟩
  have r1 := (held (o1.next s) o1.rv s3 (f2.trans f3)).2
  have f : Fr H os H3 os3 := (o1.drop s).2.trans (f2.trans f3)
  have sf := s3.lessT
  generalize p1.1.fz = x at e4 r1
  generalize ho : ([] : List Addr) = o at r1
  unfold sliceD at e4
  cases r1 with
  | fr h1 _ r =>
    cases e4
    exact .inl ⟨_, _, rfl, SqL.of h1, fun p hp => q _ _ _ os3 (fin sf f (.list hp (r.cut _ _)))⟩
  | tup h1 r =>
    cases e4
    refine .inr ⟨_, _, rfl, SqT.of h1, fun w => ?_, fun _ p hp => q _ _ _ os3 (fin sf f (.tup hp (r.cut _ _)))⟩
    rw [r.length] at w
    rw [cutD_whole w] at q
    exact q _ _ _ os3 (fin sf f (.same (.tup h1 r)))
  | scr h1 =>
    cases e4
    exact .inl ⟨_, _, rfl, h1.sq, fun p hp => q _ _ _ os3 (fin sf f (.list hp ((reps_ints _).cut _ _)))⟩
  | ow _ _ => cases ho
  | _ => cases e4
/-! built-ins of one argument -/
def rB (K : PySem.W.Frag) (f : D → Option D) : List V → Hp → VK → Prop := fun xs H Q => ∃ O x d1 d, xs = [x] ∧ Rep K H O x d1 [] ∧ f d1 = some d ∧ ∀ v H' ov, PRes K H O H' v d ov → Q v H'
theorem CallR.of {F : Value} {f : D → Option D} {r : List V → Hp → VK → Prop} (h : CallR X F r)
    (hi : ∀ O H x d1 d Q, Rep X.K H O x d1 [] → f d1 = some d → (∀ v H' ov, PRes X.K H O H' v d ov → Q v H') → r [x] H Q) : CallR X F (rB X.K f) := by
  intro pins s σ H xs us Q I r1 ⟨O, x, d1, d, e1, r2, e, q⟩
  subst e1
  exact h pins s σ H [x] us Q I r1 (hi O H x d1 d Q r2 e q)
theorem len_of {K : PySem.W.Frag} {H : Hp} {O ov : List Addr} {x : V} {d1 d : D} (r : Rep K H O x d1 ov) (e : lenD d1 = some d) : ∃ n : Nat, LenV K x H n ∧ d = .int n := by
  unfold lenD at e
  cases r with
  | tup h q => cases e; exact ⟨_, .inr ⟨_, SqT.of h, rfl⟩, by rw [q.length]⟩
  | fr h _ q => cases e; exact ⟨_, .inl ⟨_, SqL.of h, rfl⟩, by rw [q.length]⟩
  | ow h q => cases e; exact ⟨_, .inl ⟨_, SqL.of h, rfl⟩, by rw [q.length]⟩
  | str s =>
    simp only at e
    split at e <;> cases e
    exact ⟨s.length, ⟨lim_le (by assumption), rfl⟩, rfl⟩
  | _ => cases e
theorem b_len : CallR X (.builtin "len") (rB X.K (biD .len)) := CallR.of call_len fun O H x d1 d Q r e q => by
  obtain ⟨n, h, rfl⟩ := len_of r (by simpa only [biD] using e)
  exact ⟨x, n, rfl, h, q _ _ _ (.same (.int _))⟩
theorem b_abs : CallR X (.builtin "abs") (rB X.K (biD .abs)) := CallR.of call_abs fun O H x d1 d Q r e q => by
  cases d1 with
  | int i => cases e; cases r; exact ⟨i, rfl, q _ _ _ (.same (.int _))⟩
  | _ => cases e
theorem b_int : CallR X (.type "int") (rB X.K (biD .int)) := CallR.of call_int1 fun O H x d1 d Q r e q => by
  cases d1 with
  | int i => cases e; cases r; exact .inl ⟨i, rfl, q _ _ _ (.same (.int _))⟩
  | bl i => cases e; cases r; exact .inr ⟨i, rfl, q _ _ _ (.same (.int _))⟩
  | _ => cases e
theorem b_list : CallR X (.type "list") (rB X.K (biD .list)) := CallR.of call_list_of fun O H x d1 d Q r e q => by
  generalize ho : ([] : List Addr) = o at r
  cases r with
  | tup h r => cases e; exact ⟨_, _, rfl, .inr (SqT.of h), fun l hl => q _ _ _ (.list hl r)⟩
  | fr h _ r => cases e; exact ⟨_, _, rfl, .inl (SqL.of h), fun l hl => q _ _ _ (.list hl r)⟩
  | ow _ _ => cases ho
  | _ => cases e
theorem b_tuple : CallR X (.type "tuple") (rB X.K (biD .tuple)) := CallR.of call_tuple_of fun O H x d1 d Q r e q => by
  generalize ho : ([] : List Addr) = o at r
  cases r with
  | tup h r => cases e; exact ⟨_, _, rfl, .inr ⟨SqT.of h, q _ _ _ (.same (.tup h r))⟩⟩
  | fr h _ r => cases e; exact ⟨_, _, rfl, .inl ⟨SqL.of h, fun l hl => q _ _ _ (.tup hl r)⟩⟩
  | ow _ _ => cases ho
  | _ => cases e
theorem rep_bools {K : PySem.W.Frag} {H : Hp} {O : List Addr} : ∀ {ds : List D} {bs : List Bool} {vs : List V} {o : List Addr}, bools ds = some bs → RepA K H O vs ds o → vs = bs.map V.bl
  | [], _, _, _, h, r => by cases h; cases r; rfl
  | .bl b :: ds, bs, _, _, h, .cons r t => by
    rw [bools] at h
    obtain ⟨bs', h1, rfl⟩ := Option.map_eq_some_iff.mp h
    rw [List.map_cons, rep_bools h1 t, val_bl r]
  | .non :: _, _, _, _, h, _ => by cases h
  | .int _ :: _, _, _, _, h, _ => by cases h
  | .str _ :: _, _, _, _, h, _ => by cases h
  | .tup _ :: _, _, _, _, h, _ => by cases h
  | .lst _ _ :: _, _, _, _, h, _ => by cases h
  | .dct _ _ _ :: _, _, _, _, h, _ => by cases h
  | .scr _ :: _, _, _, _, h, _ => by cases h
theorem b_all (hc : X.calm = true) : CallR X (.builtin "all") (rB X.K (biD .all)) := CallR.of (cr_all hc) fun O H x d1 d Q r e q => by
  generalize ho : ([] : List Addr) = o at r
  cases r with
  | fr h _ r =>
    simp only [biD] at e
    obtain ⟨bs, h1, rfl⟩ := Option.map_eq_some_iff.mp e
    have e2 := rep_bools h1 r
    subst e2
    exact ⟨_, bs, rfl, SqL.of h, q _ _ _ (.same (.bl _))⟩
  | ow _ _ => cases ho
  | _ => cases e
mutual
theorem ok_nodict : ∀ d : D, d.ok = true → d.py.hasDict = false
  | .non, _ => by simp only [D.py, PyData.hasDict]
  | .bl _, _ => by simp only [D.py, PyData.hasDict]
  | .int _, _ => by simp only [D.py, PyData.hasDict]
  | .str _, _ => by simp only [D.py, PyData.hasDict]
  | .tup xs, h => by
    simp only [D.py, PyData.hasDict]
    exact okA_nodict xs (by simpa only [D.ok] using h)
  | .lst _ xs, h => by
    simp only [D.py, PyData.hasDict]
    exact okA_nodict xs (by simpa only [D.ok] using h)
  | .dct _ _ _, h => by simp only [D.ok] at h; cases h
  | .scr _, h => by simp only [D.ok] at h; cases h
theorem okA_nodict : ∀ ds : List D, D.okA ds = true → PyData.hasDictAll (D.pyA ds) = false
  | [], _ => by simp only [D.pyA, PyData.hasDictAll]
  | d :: ds, h => by
    rw [D.okA, Bool.and_eq_true] at h
    simp only [D.pyA, PyData.hasDictAll]
    rw [ok_nodict d h.1, okA_nodict ds h.2]
    rfl
end
theorem b_repr (hg : X.A.guards = some []) (hu : X.A.units + 100 < cLine) : CallR X (.builtin "repr") (rB X.K (biD .repr)) := by
  intro pins s σ H xs us Q I r1 ⟨O, x, d1, d, e1, r2, e, q⟩
  subst e1
  simp only [biD] at e
  split at e <;> cases e
  rename_i hz
  simp only [Bool.and_eq_true, decide_eq_true_eq] at hz
  obtain ⟨⟨⟨k1, k2⟩, k3⟩, k4⟩ := hz
  have dp := r2.dp k1
  obtain ⟨u, rfl, ru⟩ := vals1 r1
  have fin0 : ∀ h' u tk, (∀ b o, s.heap.get? b = some o → h'.get? b = some o) → EP X pins σ Q (.str d1.py.shown u) { s with heap := h', toks := tk } := fun h' u tk k =>
    ⟨.str _, H, I.kept k, ⟨_, rfl⟩, q _ _ _ (.same (.str _))⟩
  obtain ⟨as, rd⟩ := Dp.reads I _ _ _ dp ru
  have sz : d1.py.shown.length ≤ sizeLine := lim_le k4
  cases r2 with
  | non =>
    cases ru
    simp only [D.py, PyData.shown] at fin0
    exact PySem.P.repr_of_none (fin0 s.heap _ _ fun _ _ e => e)
  | bl b =>
    cases ru
    simp only [D.py, PyData.shown] at fin0
    exact PySem.P.repr_of_bool (fin0 s.heap _ _ fun _ _ e => e)
  | int i =>
    obtain ⟨t, rfl⟩ := ru
    simp only [D.py, PyData.shown] at fin0
    simp only [D.py, PyData.showable, decide_eq_true_eq] at k2
    exact PySem.P.repr_of_int k2 (fin0 s.heap _ _ fun _ _ e => e)
  | str x =>
    obtain ⟨t, rfl⟩ := ru
    simp only [D.py, PyData.shown] at fin0 sz
    exact PySem.P.repr_of_str (fin0 s.heap _ _ fun _ _ e => e) sz
  | _ =>
    cases ru
    exact repr_of_reads' rd k2 (fun h => by rw [ok_nodict _ k1] at h; cases h) hg (by omega) (fun _ _ e => e) fin0 sz
end
end Rr

namespace Rr
open PySem PySem.Spec PyProof.Rows RT
/-! list(reversed(l)) -/
section
variable {prog : Program} {w : World} {A : Around} {E : Value → Shared → Prop} {s : Shared} {it l : Addr} {xs : Array Value}
abbrev RevAt (h : Heap) (it l : Addr) (xs : Array Value) : Prop := h.IsRevIter it l ((xs.size : Int) - 1) ∧ h.IsList l xs
abbrev RevGot (xs acc : Array Value) : Prop := ItemsOf (fun i v => xs[xs.size - 1 - i]? = some v) acc xs.size
theorem rvl_ext {R : Result → Shared → Prop} (hh : A.handled = none) (hr : RevAt s.heap it l xs) (hne : l ≠ it) (hn : xs.size ≤ sizeLine) (S : Addr) (h1 : S ≠ it) (h2 : S ≠ l) (res : Value) (c : Nat)
    (hS : s.heap.get? S = some { cls := .type "list", data := .seq #[] c })
    (hR : ∀ h' tk acc c', (∀ b o, b ≠ S → b ≠ it → s.heap.get? b = some o → h'.get? b = some o) → h'.get? S = some { cls := .type "list", dict := none, data := .seq acc c', slots := #[] } →
      RevGot xs acc → R (.ok (.ret res)) { s with heap := h', toks := tk }) :
    wpAny (model prog w) A.in1 (Builtin.List.listExtendWith (.ref S) (.ref it) res)
      (fun f s' => match f with | .done f => R (.ok f) s' | .again c' => c'.quiet = true ∧ codeAny (model prog w) A c' R s') (fun e s' => R (.error e) s') s := by
  have W := (Walks.listRev (prog := prog) (w := w) (A := A.in1) hh it l hne xs).toS
  have nf : S ∉ [it, l] := by
    simp only [List.mem_cons, List.not_mem_nil, or_false, not_or]
    exact ⟨h1, h2⟩
  have hT : s.TypeIs (.ref it) "list_reverseiterator" := hr.1.typeIs
  have ne : Builtin.List.listSameRef (.ref S) (.ref it) = false := by simp [Builtin.List.listSameRef, h1]
  unfold Builtin.List.listExtendWith
  refine wpAny_bind (wpAny_typeOf hT ?_)
  rw [if_neg (by rw [ne]; decide)]
  refine wpAny_bind (wpAny_pyIter_revIter hr.1 (wpAny_bind (wpAny_holding ?_)))
  unfold Builtin.List.listLengthHint
  refine wpAny_bind (wpAny_specialOf hT nolen_lri ?_)
  show wpAny _ _ (specialOf (Value.ref it) (Str.ofString "__length_hint__") >>= _) _ _ s
  refine wpAny_bind (wpAny_specialOf hT hint_lri ?_)
  generalize hid : ("list_reverseiterator.__length_hint__" : String) = i0
  wp_delta
  rw [show splitId i0 = some ("list_reverseiterator", "__length_hint__") from (by subst hid; decide +kernel)]
  subst hid
  refine wpAny_bind (wpAny_isInstance (b := true) hT (by rw [isSubtype_type]; kernel_rfl) (wpAny_pure ?_))
  rw [if_neg (by decide)]
  have z : ((xs.size : Nat) : Int) - 1 - ((0 : Nat) : Int) = (xs.size : Int) - 1 := by omega
  refine wpAny_pure ⟨plainId_quiet F.plain_extend_loop _, codeAny_extend_loopS W hn S nf res xs.size 0 _ _ _ rfl (Nat.zero_le _) ⟨Nat.zero_le _, by rw [z]; exact hr.1, hr.2⟩ hS (ItemsOf.nil _) fun s' acc c' hm hS' got => ?_⟩
  rw [Moved.eq_with hm]
  refine hR s'.heap s'.toks acc c' (fun b o n1 n2 e => hm.heap b o (fun m => ?_) e) hS' got
  rcases List.mem_cons.mp m with q | m
  · exact n1 q
  · exact n2 (List.mem_singleton.mp m)
theorem rvl_init {R : Result → Shared → Prop} (hh : A.handled = none) (hr : RevAt s.heap it l xs) (hne : l ≠ it) (hn : xs.size ≤ sizeLine) (S : Addr) (h1 : S ≠ it) (h2 : S ≠ l)
    (hS : s.heap.get? S = some { cls := .type "list", data := .seq #[] })
    (hR : ∀ h' tk acc c', (∀ b o, b ≠ S → b ≠ it → s.heap.get? b = some o → h'.get? b = some o) → h'.get? S = some { cls := .type "list", dict := none, data := .seq acc c', slots := #[] } →
      RevGot xs acc → R (.ok (.ret .none)) { s with heap := h', toks := tk }) :
    wpAny (model prog w) A.in1 (Builtin.«list.__init__» ⟨[.ref S, .ref it], []⟩)
      (fun f s' => match f with | .done f => R (.ok f) s' | .again c' => c'.quiet = true ∧ codeAny (model prog w) A c' R s') (fun e s' => R (.error e) s') s := by
  show wpAny _ _ (do
    let old ← Builtin.List.listItems (.ref S)
    Builtin.List.listUpdate (.ref S) (fun _ => #[])
    letGo old.toList.reverse
    Builtin.List.listExtendWith (.ref S) (.ref it) .none) _ _ s
  refine wpAny_bind ?_
  unfold Builtin.List.listItems
  refine wpAny_bind (wpAny_seqItems hS rfl (wpAny_pure ?_))
  show wpAny _ _ (updateSeq S (fun _ => #[]) >>= fun _ =>
    letGo (#[] : Array Value).toList.reverse >>= fun _ => Builtin.List.listExtendWith (.ref S) (.ref it) .none) _ _ s
  refine wpAny_bind (wpAny_updateSeq hS rfl ?_)
  have hS2 := Heap.get?_update_self (Obj.mapSeq fun _ => (#[] : Array Value)) hS rfl
  have oth : ∀ b o, b ≠ S → s.heap.get? b = some o → (s.heap.update S (Obj.mapSeq fun _ => (#[] : Array Value))).get? b = some o := fun b o n e =>
    (Heap.get?_update_other _ _ (Ne.symm n)).trans e
  refine wpAny_bind (wpAny_letGo ?_)
  have hr2 : RevAt (s.heap.update S (Obj.mapSeq fun _ => (#[] : Array Value))) it l xs := by
    obtain ⟨⟨o, e1, r⟩, ⟨o2, e2, r2⟩⟩ := hr
    exact ⟨⟨o, oth it o h1.symm e1, r⟩, ⟨o2, oth l o2 h2.symm e2, r2⟩⟩
  refine rvl_ext hh hr2 hne hn S h1 h2 .none _ hS2 fun h' tk acc c' k e got => ?_
  exact hR h' tk acc c' (fun b o n1 n2 q => k b o n1 n2 (oth b o n1 q)) e got
theorem rvl_call {Q : Value → Shared → Prop} (hh : A.handled = none) (hr : RevAt s.heap it l xs) (hne : l ≠ it) (hn : xs.size ≤ sizeLine)
    (hQ : ∀ h' tk acc c', (∀ b o, b ≠ it → s.heap.get? b = some o → h'.get? b = some o) → h'.get? s.heap.objs.size = some { cls := .type "list", dict := none, data := .seq acc c', slots := #[] } →
      RevGot xs acc → Q (.ref s.heap.objs.size) { s with heap := h', toks := tk }) :
    wpAny (model prog w) A (call (.type "list") [.ref it]) Q E s := by
  refine callType_codes (Q₁ := fun obj s1 => obj = .ref s.heap.objs.size ∧ s1 = { s with heap := s.heap.push { cls := .type "list", data := .seq #[] } })
    F.called_list (F.typeCall_list_1 _) F.entry_list_init (code_list_new _ ⟨rfl, rfl⟩) fun obj s1 h1 => ?_
  obtain ⟨rfl, rfl⟩ := h1
  have hS : (s.heap.push { cls := .type "list", data := .seq #[] }).get? s.heap.objs.size = some { cls := .type "list", data := .seq #[] } := Heap.get?_push_size _ rfl
  obtain ⟨⟨o, e1, r⟩, ⟨o2, e2, r2⟩⟩ := id hr
  have hr2 : RevAt (s.heap.push { cls := .type "list", data := .seq #[] }) it l xs := ⟨⟨o, Heap.get?_push_of_some _ e1, r⟩, ⟨o2, Heap.get?_push_of_some _ e2, r2⟩⟩
  refine ⟨⟨_, hS, rfl⟩, F.args_list_init_2 _ _, rvl_init (A := A.in1) hh hr2 hne hn _ (Nat.ne_of_gt (Heap.lt_size e1)) (Nat.ne_of_gt (Heap.lt_size e2)) hS fun h' tk acc c' k e got => ⟨rfl, ?_⟩⟩
  exact hQ h' tk acc c' (fun b o n q => k b o (Nat.ne_of_lt (Heap.lt_size q)) n (Heap.get?_push_of_some _ q)) e got
end
end Rr

namespace Rr
open PySem PySem.Spec L2

/-! ### what a def of the small language promises -/
structure Fnk (P : Program) (w : World) (K : PySem.W.Frag) (mg : Str → Option Value) (base : Heap) (k : Nat) (f : Addr) (fd : FuncData) (ps : List Str) (sp : Sp) : Prop where
  len : ∀ vs H Q E, sp vs H Q E → vs.length = ps.length
  run : ∀ (A : Around) (outer : List Env) (s : Shared) (H : Hp) (args : Args) (us : List Value) (vs : List V) (Q : VK), Room k A → A.guards = some [] → Env0 P w K mg base A outer s H →
    BindsTo s fd args (ps.zip us) → Vals vs us → sp vs H Q E0 → codeAny (model P w) A (.call (.ref f) args) (CR CX0 outer P w H s Q E0) s
structure PostF (K : PySem.W.Frag) (T os : List Addr) (H : Hp) (vs : List V) (r : D) (out : List D) (v : V) (H' : Hp) (ov os' : List Addr) : Prop where
  rv : Rep K H' (T ++ (ov ++ os')) v r ov
  ro : RepA K H' (T ++ (ov ++ os')) (vs.take out.length) out os'
  nd : (T ++ (ov ++ os')).Nodup
  fr : Fr H os H' (ov ++ os')
def spF (K : PySem.W.Frag) (m : List D → Option (D × List D)) : Sp := fun vs H Q _ => ∃ T os ds r out, RepA K H (T ++ os) vs ds os ∧ (T ++ os).Nodup ∧ (∀ a ∈ T, H a ≠ none) ∧ m ds = some (r, out) ∧
  ∀ v H' ov os', PostF K T os H vs r out v H' ov os' → Q v H'

section
variable {X : Cx} {k : Nat} {f : Addr} {fd : FuncData} {ps : List Str} {sp : Sp} {x : Str} {p pos : Pos} {e : Expr} {es : List Expr} {t : TA}
theorem run_k {pins : List (Addr × Obj)} {σ : L2.St} {H : Hp} {s : Shared} {Q : VK} {args : Args} {us : List Value} {vs : List V} (F : Fnk X.prog X.w X.K X.mg X.base k f fd ps sp) (hr : Room k X.A) (hg : X.A.guards = some [])
    (hb : BindsTo s fd args (ps.zip us)) (I : Inv X pins σ H s) (r : Vals vs us) (h : sp vs H Q E0) : codeAny (model X.prog X.w) X.A (.call (.ref f) args) (fun r s' => match r with
      | .ok (.ret u) => EP X pins σ Q u s'
      | .ok _ => False
      | .error _ => False) s := by
  refine codeAny_mono (F.run X.A X.stack s H args us vs Q hr hg I.env0 hb r h) fun r s' hq => ?_
  cases r with
  | error e => exact hq
  | ok fl =>
    cases fl with
    | ret u => exact I.after hq
    | next => exact hq
    | brk => exact hq
    | cont => exact hq
theorem of_run {A : Around} {M : Model} {Q : Value → Shared → Prop} {E : Value → Shared → Prop} {s : Shared} {f : Value} {us : List Value} {kw : List (Str × Value)} (h : codeAny M A (.call f ⟨us, kw⟩) (fun r s' => match r with
      | .ok (.ret u) => Q u s'
      | .ok _ => False
      | .error _ => False) s) : wpAny M A (call f us kw) Q E s := by
  refine wpAny_call (codeAny_mono h fun r s' hq => ?_)
  cases r with
  | error e => exact hq.elim
  | ok fl =>
    cases fl with
    | ret u => exact hq
    | next => exact hq.elim
    | brk => exact hq.elim
    | cont => exact hq.elim
theorem pe_k (F : Fnk X.prog X.w X.K X.mg X.base k f fd ps sp) (hr : Room k X.A) (hg : X.A.guards = some []) (hG : Gl X x) (hm : X.mg x = some (.ref f)) (hk : PySem.W.keepIn X.K (.ref f) = true) (hb : Binds X.K fd ps [])
    (ha : PA X (e :: es) t) (hdb : (x == ("__debug__" : Str)) = false) (he : starEach (e :: es) X.env = (false, eval e X.env) :: starEach es X.env) (hpl : (backTo pos (starEach es X.env)).any (·.1) = false) :
    PE X (.Call (.Name x p) (e :: es) [] pos) (fun σ H Q => t σ H fun vs H1 => sp vs H1 Q E0) := by
  refine ⟨fun pins s σ H Q I h => ?_⟩
  refine wpAny_Call_Name_kw (ld_glob I hG hm ?_ hdb)
  refine PySem.W.callWith_K (h₀ := X.base) I.ok.mod.kin hk (thn (ha.run pos pins s σ H _ I h) fun us s1 ⟨vs, H1, I1, r, q⟩ => ⟨I1.kIn, ?_⟩) he hpl
  have hl : (us ++ []).length = ps.length := by rw [List.append_nil, ← r.length]; exact F.len _ _ _ _ q
  have hb2 := hb s1 us I1.kIn hl
  rw [List.append_nil] at hb2
  exact of_run (run_k F hr hg hb2 I1 r q)
/-- every argument by its name -/
theorem pe_kk {kws : List Keyword} {ks : List Str} {pm : List Nat} (F : Fnk X.prog X.w X.K X.mg X.base k f fd ps sp) (hr : Room k X.A) (hg : X.A.guards = some []) (hG : Gl X x) (hm : X.mg x = some (.ref f)) (hk : PySem.W.keepIn X.K (.ref f) = true)
    (hb : ∀ (s : Shared) (ws : List Value), ws.length = ks.length → BindsTo s fd ⟨[], ks.zip ws⟩ (ps.zip (pm.filterMap fun k => ws[k]?))) (ha : PK X kws t) (hlen : kws.length = ks.length)
    (hall : (backToKw pos (keywordEach kws X.env)).all (·.1.isSome) = true) (hks : (backToKw pos (keywordEach kws X.env)).filterMap (·.1) = ks) (hdb : (x == ("__debug__" : Str)) = false)
    (hpl : ((backTo pos (starEach [] X.env)).any (·.1) || (backToKw pos (keywordEach kws X.env)).any (·.1.isNone)) = false) :
    PE X (.Call (.Name x p) [] kws pos) (fun σ H Q => t σ H fun vs H1 => vs.length = ks.length ∧ sp (pm.filterMap fun k => vs[k]?) H1 Q E0) := by
  refine ⟨fun pins s σ H Q I h => ?_⟩
  refine wpAny_Call_Name_kw (ld_glob I hG hm ?_ hdb)
  refine PySem.W.callWith_KW0 (h₀ := X.base) I.ok.mod.kin hk hall ?_ hpl
  refine thn (ha.run pos pins s σ H _ I h) fun us s1 ⟨vs, H1, I1, r, hl, q⟩ => ⟨I1.kIn, ?_⟩
  rw [hks]
  have r2 : ∀ pm : List Nat, Vals (pm.filterMap fun k => vs[k]?) (pm.filterMap fun k => us[k]?) := by
    intro pm
    induction pm with
    | nil => exact .nil
    | cons n pm ih =>
      rw [List.filterMap_cons, List.filterMap_cons]
      cases hv : vs[n]? with
      | none =>
        rw [r.none_of hv]
        exact ih
      | some v =>
        obtain ⟨u, hu, ru⟩ := r.get hv
        rw [hu]
        exact .cons ru ih
  exact of_run (us := []) (run_k F hr hg (hb s1 us (by rw [← r.length]; exact hl)) I1 (r2 pm) q)
end

section
variable {K : PySem.W.Frag} {σ : L2.St} {H H1 H' : Hp} {T os os1 ov os' : List Addr} {ρ ρ1 : Rho} {vs : List V} {ds : List D} {v : V} {r : D} {m : List D → Option (D × List D)}
theorem PostF.res {O : List Addr} (h : PostF K O [] H vs r [] v H' ov os') : PRes K H O H' v r ov := by
  have e : os' = [] := by
    have := h.ro
    generalize hl : vs.take ([] : List D).length = l at this
    cases this
    rfl
  subst e
  have n := List.nodup_append.mp h.nd
  rw [List.append_nil] at n
  refine ⟨h.rv.sub fun a q => ?_, n.2.1, fun a q => ?_, fun a q => h.fr.keep a q (fun z => nomatch z)⟩
  · simp only [List.append_nil, List.mem_append] at q ⊢
    exact q.symm
  · rcases h.fr.sub a (by rw [List.append_nil]; exact q) with z | z
    · cases z
    · exact z
theorem sp_of (s : SI K H T os σ ρ) (r1 : RepA K H (T ++ os) vs ds []) (e : m ds = some (r, [])) {Q : VK} (q : ∀ v H' ov, PRes K H (T ++ os) H' v r ov → Q v H') : spF K m vs H Q E0 := by
  refine ⟨T ++ os, [], ds, r, [], by rw [List.append_nil]; exact r1, by rw [List.append_nil]; exact s.nd, fun a q => ?_, e, fun v H' ov os' h => q v H' ov h.res⟩
  rcases List.mem_append.mp q with q | q
  · exact s.tr a q
  · intro z
    have := s.rs.mut a q
    rw [z] at this; exact this
end

section
variable {X : Cx} {a b c : Expr} {ea eb ec : Ev} {pos p : Pos} {C : Fn} {x : Str} {es : List Expr} {ev : EvA}
/-- a callee that is known -/
def Callee (X : Cx) (k : Nat) (x : Str) (m : List D → Option (D × List D)) : Prop := ∃ f fd ps, X.mg x = some (.ref f) ∧ PySem.W.keepIn X.K (.ref f) = true ∧ Binds X.K fd ps [] ∧ Fnk X.prog X.w X.K X.mg X.base k f fd ps (spF X.K m)
def CalleeK (X : Cx) (k : Nat) (x : Str) (ks : List Str) (pm : List Nat) (m : List D → Option (D × List D)) : Prop := ∃ f fd ps, X.mg x = some (.ref f) ∧ PySem.W.keepIn X.K (.ref f) = true ∧
  (∀ (s : Shared) (ws : List Value), ws.length = ks.length → BindsTo s fd ⟨[], ks.zip ws⟩ (ps.zip (pm.filterMap fun k => ws[k]?))) ∧ Fnk X.prog X.w X.K X.mg X.base k f fd ps (spF X.K m)
theorem r_call {k : Nat} {m : List D → Option (D × List D)} (c : Callee X k x m) (hr : Room k X.A) (hg : X.A.guards = some []) (hG : Gl X x) (ha : PA X (a :: es) (tA X.K ev)) (hdb : (x == ("__debug__" : Str)) = false)
    (he : starEach (a :: es) X.env = (false, eval a X.env) :: starEach es X.env) (hpl : (backTo pos (starEach es X.env)).any (·.1) = false) :
    PE X (.Call (.Name x p) (a :: es) [] pos) (tI X.K fun ρ => (ev ρ).bind fun p => (m (D.fzA p.1)).bind fun r => match r.2 with
      | [] => some (r.1, p.2)
      | _ => none) := by
  obtain ⟨f, fd, ps, c1, c2, c3, F⟩ := c
  refine imp (pe_k F hr hg hG c1 c2 c3 ha hdb he hpl) fun σ H Q ⟨T, os, ρ, d, ρ', s, e, q⟩ => ?_
  obtain ⟨p1, e1, e⟩ := Option.bind_eq_some_iff.mp e
  obtain ⟨⟨r, out⟩, e2, e⟩ := Option.bind_eq_some_iff.mp e
  cases out with
  | cons _ _ => cases e
  | nil =>
    cases e
    refine ⟨T, os, ρ, p1.1, p1.2, s, e1, fun vs H1 ov os1 o => ?_⟩
    obtain ⟨s1, f1, r1⟩ := o.drop s
    exact sp_of s1 r1 e2 fun v H' ov' h => q v H' ov' os1 (fin s1 f1 h)
theorem fzA_filter (pm : List Nat) (ds : List D) : True := trivial
theorem RepA.pick {K : PySem.W.Frag} {H : Hp} {O : List Addr} {vs : List V} {ds : List D} (r : RepA K H O vs ds []) : ∀ pm : List Nat, RepA K H O (pm.filterMap fun k => vs[k]?) (pm.filterMap fun k => ds[k]?) []
  | [] => .nil
  | n :: pm => by
    rw [List.filterMap_cons, List.filterMap_cons]
    cases hd : ds[n]? with
    | none =>
      have : vs[n]? = none := by
        rw [List.getElem?_eq_none_iff] at hd ⊢
        rw [r.length]; exact hd
      rw [this]
      exact RepA.pick r pm
    | some d =>
      obtain ⟨v, hv, rd⟩ := r.nils n d hd
      rw [hv]
      have := RepA.cons rd (RepA.pick r pm)
      exact this
theorem r_ckw {k : Nat} {m : List D → Option (D × List D)} {kws : List Keyword} {ks : List Str} {pm : List Nat} (c : CalleeK X k x ks pm m) (hr : Room k X.A) (hg : X.A.guards = some []) (hG : Gl X x) (ha : PK X kws (tA X.K ev)) (hdb : (x == ("__debug__" : Str)) = false)
    (hlen : kws.length = ks.length) (hev : ∀ ρ p, ev ρ = some p → p.1.length = ks.length) (hall : (backToKw pos (keywordEach kws X.env)).all (·.1.isSome) = true) (hks : (backToKw pos (keywordEach kws X.env)).filterMap (·.1) = ks)
    (hpl : ((backTo pos (starEach [] X.env)).any (·.1) || (backToKw pos (keywordEach kws X.env)).any (·.1.isNone)) = false) :
    PE X (.Call (.Name x p) [] kws pos) (tI X.K fun ρ => (ev ρ).bind fun p => (m (pm.filterMap fun k => (D.fzA p.1)[k]?)).bind fun r => match r.2 with
      | [] => some (r.1, p.2)
      | _ => none) := by
  obtain ⟨f, fd, ps, c1, c2, c3, F⟩ := c
  refine imp (pe_kk F hr hg hG c1 c2 c3 ha hlen hall hks hdb hpl) fun σ H Q ⟨T, os, ρ, d, ρ', s, e, q⟩ => ?_
  obtain ⟨p1, e1, e⟩ := Option.bind_eq_some_iff.mp e
  obtain ⟨⟨r, out⟩, e2, e⟩ := Option.bind_eq_some_iff.mp e
  cases out with
  | cons _ _ => cases e
  | nil =>
    cases e
    refine ⟨T, os, ρ, p1.1, p1.2, s, e1, fun vs H1 ov os1 o => ⟨by rw [o.rv.length]; exact hev _ _ e1, ?_⟩⟩
    obtain ⟨s1, f1, r1⟩ := o.drop s
    exact sp_of s1 (r1.pick pm) e2 fun v H' ov' h => q v H' ov' os1 (fin s1 f1 h)
/-- the keywords' values -/
theorem r_knil : PK X [] (tA X.K (denA C .nil)) := by
  have h := pk_nil (X := X)
  refine ⟨fun pos pins s σ H Q I q => h.run pos pins s σ H Q I ?_⟩
  obtain ⟨T, os, ρ, ds, ρ', s, e, q⟩ := q
  rw [denA] at e; cases e
  exact q [] H [] os (.none s)
theorem r_kcons {kws : List Keyword} {nm : Option Str} {kp : Pos} (ha : PE X a (tI X.K ea)) (hr : PK X kws (tA X.K ev)) :
    PK X (⟨nm, a, kp⟩ :: kws) (tA X.K fun ρ => (ea ρ).bind fun p => (ev p.2).bind fun q => some (p.1 :: q.1, q.2)) := by
  have h := pk_cons (nm := nm) (kpos := kp) ha hr
  refine ⟨fun pos pins s σ H Q I q => h.run pos pins s σ H Q I ?_⟩
  obtain ⟨T, os, ρ, ds, ρ', s, e, q⟩ := q
  obtain ⟨p1, e1, e⟩ := Option.bind_eq_some_iff.mp e
  obtain ⟨p2, e2, e⟩ := Option.bind_eq_some_iff.mp e
  cases e
  exact ⟨T, os, ρ, p1.1, p1.2, s, e1, fun v1 H1 ov1 os1 o1 => ⟨T ++ ov1, os1, p1.2, p2.1, p2.2, o1.next s, e2, fun vs H2 ov2 os2 o2 => q _ H2 _ os2 (Out.cons s o1 o2)⟩⟩

/-! a slot that a part changes -/
theorem perm_nd {T pre oi post : List Addr} (h : (T ++ (pre ++ (oi ++ post))).Nodup) : ((T ++ (pre ++ post)) ++ oi).Nodup := by
  refine (List.Perm.nodup_iff ?_).mp h
  rw [List.append_assoc, List.append_assoc]
  exact (List.perm_append_comm.append_left pre).append_left T
theorem perm_nd2 {T pre oi post ov : List Addr} (h : ((T ++ (pre ++ post)) ++ (ov ++ oi)).Nodup) : (T ++ (ov ++ (pre ++ (oi ++ post)))).Nodup := by
  refine (List.Perm.nodup_iff ?_).mp h
  rw [List.append_assoc]
  refine List.Perm.append_left T ?_
  have h1 : (pre ++ post ++ (ov ++ oi)).Perm (ov ++ (pre ++ post ++ oi)) := by
    refine List.perm_append_comm.trans ?_
    rw [List.append_assoc]
    exact List.Perm.append_left ov List.perm_append_comm
  refine h1.trans (List.Perm.append_left ov ?_)
  rw [List.append_assoc]
  exact List.Perm.append_left pre List.perm_append_comm
theorem r_cio {j k : Nat} {m : List D → Option (D × List D)} {y : Str} {py : Pos} (c : Callee X k x m) (hr : Room k X.A) (hg : X.A.guards = some []) (hG : Gl X x) (hN : X.N[j]? = some y) (hv : Vis X.env.scope y) (hd : (y == ("__debug__" : Str)) = false) (hc : (y == ("__classdict__" : Str)) = false)
    (ha : PA X es (tA X.K ev)) (hdb : (x == ("__debug__" : Str)) = false) (he : starEach (.Name y py :: es) X.env = (false, eval (.Name y py) X.env) :: starEach es X.env) (hpl : (backTo pos (starEach es X.env)).any (·.1) = false) :
    PE X (.Call (.Name x p) (.Name y py :: es) [] pos) (tI X.K fun ρ => (getV ρ j).bind fun _ => (ev ρ).bind fun p => (ownL p.2 j).bind fun xs => (m (.lst true xs :: D.fzA p.1)).bind fun r => match r.2 with
      | [.lst true ys] => some (r.1, p.2.set j (some (.lst true ys)))
      | _ => none) := by
  obtain ⟨f, fd, ps, c1, c2, c3, F⟩ := c
  refine imp (pe_k F hr hg hG c1 c2 c3 (pa_cons (pe_var hN hv hd hc) ha he) hdb he hpl) fun σ H Q ⟨T, os, ρ, d, ρ', s, e, q⟩ => ?_
  obtain ⟨d0, e0, e⟩ := Option.bind_eq_some_iff.mp e
  obtain ⟨p1, e1, e⟩ := Option.bind_eq_some_iff.mp e
  obtain ⟨xs, e2, e⟩ := Option.bind_eq_some_iff.mp e
  obtain ⟨⟨r, out⟩, e3, e⟩ := Option.bind_eq_some_iff.mp e
  obtain ⟨v0, _, _, _, h1, _⟩ := s.rs.split (getV_some e0)
  refine ⟨v0, h1, T, os, ρ, p1.1, p1.2, s, e1, fun vs H1 ov os1 o => ?_⟩
  obtain ⟨s1, f1, r1⟩ := o.drop s
  obtain ⟨v, pre, oi, post, h2, h3, h4, h5⟩ := s1.rs.split (ownL_some e2)
  rw [h1] at h2
  cases h2
  have hout : ∃ ys, out = [.lst true ys] ∧ d = r ∧ ρ' = p1.2.set j (some (.lst true ys)) := by
    split at e
    · rename_i ys heq
      cases e
      exact ⟨ys, heq, rfl, rfl⟩
    · cases e
  obtain ⟨ys, rfl, rfl, rfl⟩ := hout
  subst h3
  have hm : ∀ z, z ∈ (T ++ (pre ++ post)) ++ oi → z ∈ T ++ (pre ++ (oi ++ post)) := fun z hz => by
    simp only [List.mem_append] at hz ⊢
    rcases hz with (hz | hz | hz) | hz
    · exact .inl hz
    · exact .inr (.inl hz)
    · exact .inr (.inr (.inr hz))
    · exact .inr (.inr (.inl hz))
  refine ⟨T ++ (pre ++ post), oi, .lst true xs :: D.fzA p1.1, d, [.lst true ys], ?_, perm_nd s1.nd, fun z hz => ?_, e3, fun v' H' ov' os' h => ?_⟩
  · have := RepA.cons (h4.sub hm) (r1.sub hm)
    rw [List.append_nil] at this
    exact this
  · intro hn
    rcases List.mem_append.mp hz with hz | hz
    · exact s1.tr z hz hn
    · have : z ∈ pre ++ (oi ++ post) := by
        simp only [List.mem_append] at hz ⊢
        rcases hz with hz | hz
        · exact .inl hz
        · exact .inr (.inr hz)
      have := s1.rs.mut z this
      rw [hn] at this; exact this
  · have ro : Rep X.K H' ((T ++ (pre ++ post)) ++ (ov' ++ os')) v0 (.lst true ys) os' := by
      have hro := h.ro
      have hro : RepA X.K H' ((T ++ (pre ++ post)) ++ (ov' ++ os')) [v0] [.lst true ys] os' := hro
      generalize hO : (T ++ (pre ++ post)) ++ (ov' ++ os') = O at hro ⊢
      cases hro with
      | cons r1 t1 => cases t1; rw [List.append_nil]; exact r1
    have hO : ∀ z, z ∈ T ++ (ov' ++ (pre ++ (os' ++ post))) → z ∈ (T ++ (pre ++ post)) ++ (ov' ++ os') := fun z hz => by
      simp only [List.mem_append] at hz ⊢
      rcases hz with hz | hz | hz | hz | hz
      · exact .inl (.inl hz)
      · exact .inr (.inl hz)
      · exact .inl (.inr (.inl hz))
      · exact .inr (.inr hz)
      · exact .inl (.inr (.inr hz))
    have k : Kp H1 (T ++ (pre ++ (oi ++ post))) oi H' (T ++ (ov' ++ (pre ++ (os' ++ post)))) := by
      refine ⟨h.fr.keep, fun z hz => ?_, fun z hz => ⟨by simp [hz], h4.mut z hz⟩⟩
      have := hO z hz
      rcases List.mem_append.mp this with q | q
      · refine .inl ?_
        simp only [List.mem_append] at q ⊢
        rcases q with q | q | q
        · exact .inl q
        · exact .inr (.inl q)
        · exact .inr (.inr (.inr q))
      · rcases h.fr.sub z q with q | q
        · exact .inl (by simp [q])
        · exact .inr q
    have hσ : σ.set j (some v0) = σ := by
      have hj : j < σ.length := (List.getElem?_eq_some_iff.mp h1).1
      have := (List.getElem?_eq_some_iff.mp h1).2
      rw [← this]; exact List.set_getElem_self hj
    have nn := perm_nd s1.nd
    have rs := h5 H' (T ++ (ov' ++ (pre ++ (os' ++ post)))) v0 (.lst true ys) os' (ro.sub hO) fun w e ow rw' mw => rw'.keep k fun z hz hz2 => by
      have := (List.nodup_append.mp nn).2.2 z (List.mem_append_right _ (mw z hz)) z hz2
      exact this rfl
    rw [hσ] at rs
    refine q v' H' ov' (pre ++ (os' ++ post)) ⟨h.rv.sub hO, rs, perm_nd2 h.nd, f1.trans ⟨fun z hz hn => h.fr.keep z hz fun hz2 => hn (by simp [hz2]), fun z hz => ?_⟩⟩
    have : z ∈ (T ++ (pre ++ post)) ++ (ov' ++ os') := hO z (List.mem_append_right _ hz)
    simp only [List.mem_append] at hz
    rcases hz with hz | hz | hz | hz
    · rcases h.fr.sub z (List.mem_append_left _ hz) with q | q
      · exact .inl (by simp [q])
      · exact .inr q
    · exact .inl (by simp [hz])
    · rcases h.fr.sub z (List.mem_append_right _ hz) with q | q
      · exact .inl (by simp [q])
      · exact .inr q
    · exact .inl (by simp [hz])
end
end Rr

namespace Rr
open PySem PySem.Spec L2

/-! ### a slot's list is changed -/
theorem nd4 {T pre m post : List Addr} (h : (T ++ (pre ++ post)).Nodup) (hm : m.Nodup) (n : ∀ z ∈ m, z ∉ T ++ (pre ++ post)) : (T ++ (pre ++ (m ++ post))).Nodup := by
  have h2 : ((T ++ (pre ++ post)) ++ m).Nodup := List.nodup_append.mpr ⟨h, hm, fun a ha b hb e => n b hb (e ▸ ha)⟩
  refine (List.Perm.nodup_iff ?_).mp h2
  rw [List.append_assoc, List.append_assoc]
  exact (List.perm_append_comm.append_left pre).append_left T
section
variable {K : PySem.W.Frag} {H : Hp} {T os ov : List Addr} {σ : L2.St} {ρ : Rho} {xs : List D} {j : Nat}
theorem slot_new (nd : (T ++ (ov ++ os)).Nodup) (tr : ∀ a ∈ T, H a ≠ none) (rs : RepS K H (T ++ (ov ++ os)) σ ρ os) (e : ρ[j]? = some (some (.lst true xs))) :
    ∃ a vs ox, σ[j]? = some (some (.ref a)) ∧ H a = some (.lst vs) ∧ RepA K H (T ++ (ov ++ os)) vs xs ox ∧ (∀ z ∈ ox, z ∈ os) ∧ a ∈ os ∧ ox.Nodup ∧ a ∉ ox ∧
      ∀ (H' : Hp) vs' xs' ox', H' a = some (.lst vs') → (∀ z, H z ≠ none → z ∉ a :: ox → H' z = H z) → (∀ O', (∀ z ∈ O', z ∈ T ++ (ov ++ os)) → (∀ z ∈ a :: ox', z ∈ O') → RepA K H' O' vs' xs' ox') → ox'.Nodup → a ∉ ox' → (∀ z ∈ ox', z ∈ ox ∨ z ∈ ov) →
        ∃ os', SI K H' T os' σ (ρ.set j (some (.lst true xs'))) ∧ (∀ z ∈ os', z ∈ os ∨ z ∈ ov) := by
  obtain ⟨v, pre, oi, post, h1, h2, h3, h4⟩ := rs.split e
  subst h2
  cases h3 with
  | @ow a vs _ ox hH hr =>
    have n1 := List.nodup_append.mp nd
    have n2 := List.nodup_append.mp n1.2.1
    have n3 := List.nodup_append.mp n2.2.1
    have n4 := List.nodup_append.mp n3.2.1
    have n5 := List.nodup_cons.mp n4.1
    refine ⟨a, vs, ox, h1, hH, hr, fun z hz => by simp [hz], by simp, n5.2, n5.1, fun H' vs' xs' ox' e1 e2 e3 nx na hx => ?_⟩
    have sub : ∀ z ∈ T ++ (pre ++ (a :: ox' ++ post)), z ∈ T ++ (ov ++ (pre ++ (a :: ox ++ post))) := fun z hz => by
      simp only [List.mem_append, List.mem_cons] at hz ⊢
      rcases hz with hz | hz | (hz | hz) | hz
      · exact .inl hz
      · exact .inr (.inr (.inl hz))
      · exact .inr (.inr (.inr (.inl (.inl hz))))
      · rcases hx z hz with q | q
        · exact .inr (.inr (.inr (.inl (.inr q))))
        · exact .inr (.inl q)
      · exact .inr (.inr (.inr (.inr hz)))
    have r' := e3 (T ++ (pre ++ (a :: ox' ++ post))) sub fun z hz => by
      simp only [List.mem_append]
      exact .inr (.inr (.inl hz))
    have k : Kp H (T ++ (ov ++ (pre ++ (a :: ox ++ post)))) (a :: ox) H' (T ++ (pre ++ (a :: ox' ++ post))) := by
      refine ⟨e2, fun z hz => .inl (sub z hz), fun z hz => ⟨?_, ?_⟩⟩
      · simp only [List.mem_append]
        exact .inr (.inr (.inr (.inl hz)))
      · rcases List.mem_cons.mp hz with q | q
        · rw [q, hH]; trivial
        · exact hr.mut z q
    have np : ∀ z ∈ a :: ox, z ∉ T ++ (pre ++ post) := fun z hz hq => by
      have m1 : z ∈ pre ++ (a :: ox ++ post) := by simp only [List.mem_append]; exact .inr (.inl hz)
      simp only [List.mem_append] at hq
      rcases hq with hq | hq | hq
      · exact n1.2.2 z hq z (List.mem_append_right _ m1) rfl
      · exact n3.2.2 z hq z (List.mem_append_left _ hz) rfl
      · exact n4.2.2 z hz z hq rfl
    have nv : ∀ z ∈ ov, z ∉ T ++ (pre ++ post) := fun z hz hq => by
      simp only [List.mem_append] at hq
      rcases hq with hq | hq | hq
      · exact n1.2.2 z hq z (List.mem_append_left _ hz) rfl
      · exact n2.2.2 z hz z (List.mem_append_left _ hq) rfl
      · exact n2.2.2 z hz z (List.mem_append_right _ (List.mem_append_right _ hq)) rfl
    have rs' := h4 H' (T ++ (pre ++ (a :: ox' ++ post))) (.ref a) (.lst true xs') (a :: ox') (.ow e1 r') fun w e ow rw' mw => rw'.keep k fun z hz hq => np z hq (List.mem_append_right _ (mw z hz))
    have hσ : σ.set j (some (.ref a)) = σ := by
      have hj : j < σ.length := (List.getElem?_eq_some_iff.mp h1).1
      have := (List.getElem?_eq_some_iff.mp h1).2
      rw [← this]; exact List.set_getElem_self hj
    rw [hσ] at rs'
    refine ⟨pre ++ (a :: ox' ++ post), ⟨rs', nd4 ?_ (List.nodup_cons.mpr ⟨na, nx⟩) fun z hz => ?_, fun z hz => ?_⟩, fun z hz => ?_⟩
    · refine nd.sublist (List.Sublist.append (List.Sublist.refl _) ?_)
      refine List.Sublist.trans ?_ (List.sublist_append_right ov _)
      exact List.Sublist.append (List.Sublist.refl _) (List.sublist_append_right _ _)
    · rcases List.mem_cons.mp hz with q | q
      · exact np z (by rw [q]; exact List.mem_cons_self)
      · rcases hx z q with q | q
        · exact np z (List.mem_cons_of_mem _ q)
        · exact nv z q
    · rw [e2 z (tr z hz) fun q => np z q (List.mem_append_left _ hz)]
      exact tr z hz
    · simp only [List.mem_append, List.mem_cons] at hz ⊢
      rcases hz with hz | (hz | hz) | hz
      · exact .inl (.inl hz)
      · exact .inl (.inr (.inl (.inl hz)))
      · rcases hx z hz with q | q
        · exact .inl (.inr (.inl (.inr q)))
        · exact .inr q
      · exact .inl (.inr (.inr hz))
/-- .. only the list itself -/
theorem upd_RepA {O : List Addr} {vs : List V} {ds : List D} {ox : List Addr} {a : Addr} {o : HO} {vs0 : List V} (r : RepA K H O vs ds ox) (ha : a ∈ O) (hH : H a = some (.lst vs0)) (n : a ∉ ox) :
    ∀ O', (∀ z ∈ O', z ∈ O) → RepA K (upd H a o) O' vs ds ox := fun O' h =>
  r.keep (cs := [a]) ⟨fun z _ hz => upd_ne fun e => hz (by rw [e]; exact List.mem_singleton.mpr rfl), fun z hz => .inl (h z hz), fun z hz => by
    rw [List.mem_singleton.mp hz]
    exact ⟨ha, by rw [hH]; trivial⟩⟩ fun z hz hq => n (by rw [← List.mem_singleton.mp hq]; exact hz)
end

section
variable {X : Cx} {a b c : Expr} {ea eb ec : Ev} {pos p apos : Pos} {C : Fn} {y : Str} {py : Pos} {j : Nat}
theorem Fr.via {H H1 H' : Hp} {os os1 ov os' : List Addr} (f : Fr H os H1 (ov ++ os1)) (k : ∀ z, H1 z ≠ none → z ∉ ov ++ os1 → H' z = H1 z) (h : ∀ z ∈ os', z ∈ os1 ∨ z ∈ ov) : Fr H os H' os' :=
  f.trans ⟨k, fun z hz => .inl (List.mem_append.mpr ((h z hz).symm))⟩
theorem r_app (hN : X.N[j]? = some y) (hv : Vis X.env.scope y) (hd : (y == ("__debug__" : Str)) = false) (hc : (y == ("__classdict__" : Str)) = false) (ha : PE X a (tI X.K ea)) (hn : starEach [a] X.env = [(false, eval a X.env)]) (hl : (apos.endLine == pos.line) = true) :
    PE X (.Call (.Attribute (.Name y py) "append" apos) [a] [] pos) (tI X.K fun ρ => (ownL ρ j).bind fun _ => (ea ρ).bind fun p => (ownL p.2 j).bind fun xs => if xs.length < lim then some (.non, p.2.set j (some (.lst true (xs ++ [p.1])))) else none) := by
  refine imp (pe_bm PySem.F.plainAttrs_list PySem.F.slot_list_append PySem.F.type_list_append mt_append (pe_var hN hv hd hc) (pa_cons ha pa_nil hn) rfl (by rw [hn]; rfl) hl hn rfl) fun σ H Q ⟨T, os, ρ, d, ρ', s, e, q⟩ => ?_
  obtain ⟨d0, e0, e⟩ := Option.bind_eq_some_iff.mp e
  obtain ⟨p1, e1, e⟩ := Option.bind_eq_some_iff.mp e
  obtain ⟨xs, e2, e⟩ := Option.bind_eq_some_iff.mp e
  have hz : xs.length < lim := by
    by_cases h : xs.length < lim
    · exact h
    · rw [if_neg h] at e; cases e
  rw [if_pos hz] at e
  cases e
  obtain ⟨v0, _, _, _, h1, _, h3, _⟩ := s.rs.split (ownL_some e0)
  refine ⟨v0, h1, ?_, T, os, ρ, p1.1, p1.2, s, e1, fun v1 H1 ov1 os1 o1 => ?_⟩
  · cases h3 with
    | ow hH _ => exact .inl ⟨rfl, _, SqL.of hH⟩
  obtain ⟨ad, vs, ox, g1, g2, g3, g4, g5, g6, g7, g8⟩ := slot_new o1.nd (o1.fr.trk s) o1.rs (ownL_some e2)
  rw [h1] at g1
  cases g1
  refine ⟨ad, vs, v1, rfl, rfl, g2, lim_lt (by rw [g3.length]; exact Nat.le_of_lt hz), ?_⟩
  have n1 := List.nodup_append.mp (List.nodup_append.mp o1.nd).2.1
  have nv : ad ∉ ov1 := fun m => n1.2.2 ad m ad g5 rfl
  have na : ad ∉ ox ++ ov1 := by simp only [List.mem_append, not_or]; exact ⟨g7, nv⟩
  obtain ⟨os', s', hs'⟩ := g8 (upd H1 ad (.lst (vs ++ [v1]))) (vs ++ [v1]) (xs ++ [p1.1]) (ox ++ ov1) upd_same
    (fun z _ hz => upd_ne fun e => hz (by rw [e]; exact List.mem_cons_self))
    (fun O' h _ => upd_RepA (g3.snoc o1.rv) (by simp [g5]) g2 na O' h)
    (List.nodup_append.mpr ⟨g6, n1.1, fun a ha b hb e => n1.2.2 b hb a (g4 a ha) e.symm⟩) na (fun z hz => List.mem_append.mp hz)
  refine q .non _ [] os' ⟨.non, s'.rs, s'.nd, o1.fr.via (fun z _ hz => upd_ne fun e => hz (by rw [e]; simp [g5])) hs'⟩
theorem r_ext (hN : X.N[j]? = some y) (hv : Vis X.env.scope y) (hd : (y == ("__debug__" : Str)) = false) (hc : (y == ("__classdict__" : Str)) = false) (ha : PE X a (tI X.K ea)) (hn : starEach [a] X.env = [(false, eval a X.env)]) (hl : (apos.endLine == pos.line) = true) :
    PE X (.Call (.Attribute (.Name y py) "extend" apos) [a] [] pos) (tI X.K fun ρ => (ownL ρ j).bind fun _ => (ea ρ).bind fun p => (ownL p.2 j).bind fun xs => match p.1 with
      | .lst _ ys => if xs.length + ys.length ≤ lim then some (.non, p.2.set j (some (.lst true (xs ++ ys)))) else none
      | _ => none) := by
  refine imp (pe_bm PySem.F.plainAttrs_list PySem.F.slot_list_extend PySem.F.type_list_extend mt_extend (pe_var hN hv hd hc) (pa_cons ha pa_nil hn) rfl (by rw [hn]; rfl) hl hn rfl) fun σ H Q ⟨T, os, ρ, d, ρ', s, e, q⟩ => ?_
  obtain ⟨d0, e0, e⟩ := Option.bind_eq_some_iff.mp e
  obtain ⟨⟨d1, r1⟩, e1, e⟩ := Option.bind_eq_some_iff.mp e
  obtain ⟨xs, e2, e⟩ := Option.bind_eq_some_iff.mp e
  have hys : ∃ o ys, d1 = .lst o ys := by
    cases d1 with
    | lst o ys => exact ⟨_, _, rfl⟩
    | _ => cases e
  obtain ⟨lo, ys, rfl⟩ := hys
  have hz : xs.length + ys.length ≤ lim := by
    by_cases h : xs.length + ys.length ≤ lim
    · exact h
    · simp only at e; rw [if_neg h] at e; cases e
  simp only at e
  rw [if_pos hz] at e
  cases e
  obtain ⟨v0, _, _, _, h1, _, h3, _⟩ := s.rs.split (ownL_some e0)
  refine ⟨v0, h1, ?_, T, os, ρ, _, r1, s, e1, fun v1 H1 ov1 os1 o1 => ?_⟩
  · cases h3 with
    | ow hH _ => exact .inl ⟨rfl, _, SqL.of hH⟩
  obtain ⟨ad, vs, ox, g1, g2, g3, g4, g5, g6, g7, g8⟩ := slot_new o1.nd (o1.fr.trk s) o1.rs (ownL_some e2)
  rw [h1] at g1
  cases g1
  have n1 := List.nodup_append.mp (List.nodup_append.mp o1.nd).2.1
  have nv : ad ∉ ov1 := fun m => n1.2.2 ad m ad g5 rfl
  have hb : ∃ b ws oy, v1 = .ref b ∧ H1 b = some (.lst ws) ∧ RepA X.K H1 (T ++ (ov1 ++ os1)) ws ys oy ∧ oy.Nodup ∧ ∀ z ∈ oy, z ∈ ov1 := by
    have rv := o1.rv
    generalize hO : T ++ (ov1 ++ os1) = O at rv ⊢
    have nn := n1.1
    clear nv n1 hO o1 g3 g8
    cases rv with
    | fr hH _ r => exact ⟨_, _, _, rfl, hH, r, List.nodup_nil, fun z hz => nomatch hz⟩
    | ow hH r => exact ⟨_, _, _, rfl, hH, r, (List.nodup_cons.mp nn).2, fun z hz => List.mem_cons_of_mem _ hz⟩
  obtain ⟨b, ws, oy, rfl, b1, b2, b3, b4⟩ := hb
  refine ⟨ad, b, vs, ws, rfl, rfl, g2, b1, lim_le (by rw [g3.length, b2.length]; exact hz), ?_⟩
  have na : ad ∉ ox ++ oy := by simp only [List.mem_append, not_or]; exact ⟨g7, fun m => nv (b4 _ m)⟩
  obtain ⟨os', s', hs'⟩ := g8 (upd H1 ad (.lst (vs ++ ws))) (vs ++ ws) (xs ++ ys) (ox ++ oy) upd_same
    (fun z _ hz => upd_ne fun e => hz (by rw [e]; exact List.mem_cons_self))
    (fun O' h _ => upd_RepA (g3.append b2) (by simp [g5]) g2 na O' h)
    (List.nodup_append.mpr ⟨g6, b3, fun a ha b hb e => n1.2.2 b (b4 b hb) a (g4 a ha) e.symm⟩) na (fun z hz => (List.mem_append.mp hz).imp _root_.id (b4 z))
  refine q .non _ [] os' ⟨.non, s'.rs, s'.nd, o1.fr.via (fun z _ hz => upd_ne fun e => hz (by rw [e]; simp [g5])) hs'⟩
/-- a list but its last item, that no one owns -/
theorem RepA.last {K : PySem.W.Frag} {H : Hp} {O : List Addr} {vs : List V} {ds : List D} {ox : List Addr} {d : D} (r : RepA K H O vs ds ox) (h : ds[ds.length - 1]? = some d) (n : d.isOwn = false) :
    ∃ v, vs[vs.length - 1]? = some v ∧ Rep K H O v d [] ∧ RepA K H O vs.dropLast ds.dropLast ox := by
  have hd : ds ≠ [] := fun e => by rw [e] at h; cases h
  have h2 : ds.getLast? = some d := by rw [List.getLast?_eq_getElem?]; exact h
  have e : ds = ds.dropLast ++ [d] := by
    obtain ⟨ys, e1⟩ := List.getLast?_eq_some_iff.mp h2
    rw [e1, List.dropLast_concat]
  rw [e] at r
  obtain ⟨v1, v2, o1, o2, rfl, rfl, q1, q2⟩ := r.unapp
  cases q2 with
  | cons q3 q4 =>
    cases q4
    have := q3.nown n
    subst this
    rename_i v
    refine ⟨v, ?_, q3, ?_⟩
    · rw [List.length_append]
      simp
    · rw [List.dropLast_concat]
      simpa using q1
theorem r_pop (hN : X.N[j]? = some y) (hv : Vis X.env.scope y) (hd : (y == ("__debug__" : Str)) = false) (hc : (y == ("__classdict__" : Str)) = false) (hl : (apos.endLine == pos.line) = true) :
    PE X (.Call (.Attribute (.Name y py) "pop" apos) [] [] pos) (tI X.K (den C (.pop j))) := by
  refine imp (pe_bm0 PySem.F.plainAttrs_list PySem.F.slot_list_pop PySem.F.type_list_pop mt_pop (pe_var hN hv hd hc) rfl hl) fun σ H Q ⟨T, os, ρ, d, ρ', s, e, q⟩ => ?_
  rw [den] at e
  obtain ⟨xs, e0, e⟩ := Option.bind_eq_some_iff.mp e
  obtain ⟨d1, e1, e⟩ := Option.bind_eq_some_iff.mp e
  have hn : d1.isOwn = false := by
    cases h : d1.isOwn with
    | false => rfl
    | true => rw [h] at e; cases e
  rw [hn] at e
  cases e
  obtain ⟨ad, vs, ox, g1, g2, g3, g4, g5, g6, g7, g8⟩ := slot_new (ov := []) s.nd s.tr s.rs (ownL_some e0)
  obtain ⟨v, l1, l2, l3⟩ := g3.last e1 hn
  refine ⟨.ref ad, g1, .inl ⟨rfl, _, SqL.of g2⟩, ad, vs, v, rfl, rfl, g2, l1, ?_⟩
  obtain ⟨os', s', hs'⟩ := g8 (upd H ad (.lst vs.dropLast)) vs.dropLast xs.dropLast ox upd_same
    (fun z _ hz => upd_ne fun e => hz (by rw [e]; exact List.mem_cons_self))
    (fun O' h _ => upd_RepA l3 (by simp [g5]) g2 g7 O' h) g6 g7 (fun z hz => .inl hz)
  have k : Kp H (T ++ ([] ++ os)) [ad] (upd H ad (.lst vs.dropLast)) (T ++ ([] ++ os')) := ⟨fun z _ hz => upd_ne fun e => hz (by rw [e]; simp), fun z hz => .inl (by
      simp only [List.nil_append, List.mem_append] at hz ⊢
      rcases hz with hz | hz
      · exact .inl hz
      · exact .inr ((hs' z hz).elim _root_.id fun h => nomatch h)), fun z hz => by
      rw [List.mem_singleton.mp hz]
      exact ⟨by simp [g5], by rw [g2]; trivial⟩⟩
  refine q v _ [] os' ⟨l2.keep k (fun _ m => nomatch m), s'.rs, s'.nd, ⟨fun z _ hz => upd_ne fun e => hz (by rw [e]; exact g5), fun z hz => ?_⟩⟩
  exact .inl ((hs' z (by simpa using hz)).elim _root_.id fun h => nomatch h)
theorem ixN_lt {n : Nat} {i : Int} {k : Nat} (h : ixN n i = some k) : k < n := (ixN_seq h).2.1
theorem r_popp {i : Int} {jj : Nat} {p1 p2 : Pos} (hN : X.N[j]? = some y) (hv : Vis X.env.scope y) (hd : (y == ("__debug__" : Str)) = false) (hc : (y == ("__classdict__" : Str)) = false) (hl : (apos.endLine == pos.line) = true) :
    PE X (.Call (.Attribute (.Subscript (.Name y py) (.Constant (.int i) jj p1) p2) "pop" apos) [] [] pos) (tI X.K (den C (.popp j i))) := by
  refine imp (pe_bm0 PySem.F.plainAttrs_list PySem.F.slot_list_pop PySem.F.type_list_pop mt_pop (pe_ix ix_list (pe_var hN hv hd hc) pe_int (fun _ _ => rfl)) rfl hl) fun σ H Q ⟨T, os, ρ, d, ρ', s, e, q⟩ => ?_
  rw [den] at e
  obtain ⟨xs, e0, e⟩ := Option.bind_eq_some_iff.mp e
  obtain ⟨k, e1, e⟩ := Option.bind_eq_some_iff.mp e
  split at e
  · rename_i ys hk
    obtain ⟨d1, e2, e⟩ := Option.bind_eq_some_iff.mp e
    have hn : d1.isOwn = false := by
      cases h : d1.isOwn with
      | false => rfl
      | true => rw [h] at e; cases e
    rw [hn] at e
    cases e
    obtain ⟨ad, vs, ox, g1, g2, g3, g4, g5, g6, g7, g8⟩ := slot_new (ov := []) s.nd s.tr s.rs (ownL_some e0)
    obtain ⟨w, pre, oi, post, h1, h2, h3, h4⟩ := g3.get hk
    cases h3 with
    | @ow b ws _ oy hb hr =>
      obtain ⟨v, l1, l2, l3⟩ := hr.last e2 hn
      have hkv : atI vs i = some (.ref b) := by
        unfold atI
        rw [g3.length, e1]
        exact h1
      refine ⟨.ref ad, g1, ad, vs, i, .ref b, rfl, rfl, SqL.of g2, hkv, .inl ⟨rfl, _, SqL.of hb⟩, b, ws, v, rfl, rfl, hb, l1, ?_⟩
      subst h2
      have hab : ad ≠ b := fun e => g7 (by rw [e]; simp)
      have nn := List.nodup_append.mp g6
      have nn2 := List.nodup_append.mp nn.2.1
      have nb : b ∉ oy := (List.nodup_cons.mp nn2.1).1
      have hvs : vs.set k (.ref b) = vs := by
        have hj : k < vs.length := (List.getElem?_eq_some_iff.mp h1).1
        have := (List.getElem?_eq_some_iff.mp h1).2
        rw [← this]; exact List.set_getElem_self hj
      have npp : ∀ z ∈ pre ++ post, z ≠ b := fun z hz e => by
        rcases List.mem_append.mp hz with q | q
        · exact nn.2.2 z q b (by simp) e
        · exact nn2.2.2 b (by simp) z q e.symm
      obtain ⟨os', s', hs'⟩ := g8 (upd H b (.lst ws.dropLast)) vs (xs.set k (.lst true ys.dropLast)) (pre ++ (b :: oy ++ post)) (by rw [upd_ne hab]; exact g2)
        (fun z _ hz => upd_ne fun e => hz (by rw [e]; simp))
        (fun O' h m => by
          have kk : Kp H (T ++ ([] ++ os)) [b] (upd H b (.lst ws.dropLast)) O' := ⟨fun z _ hz => upd_ne fun e => hz (by rw [e]; simp), fun z hz => .inl (h z hz), fun z hz => by
            rw [List.mem_singleton.mp hz]
            exact ⟨by
              have : b ∈ os := g4 b (by simp)
              simp [this], by rw [hb]; trivial⟩⟩
          have := h4 (upd H b (.lst ws.dropLast)) O' (.ref b) (.lst true ys.dropLast) (b :: oy) (.ow upd_same (l3.keep kk fun z hz hq => nb (by rw [← List.mem_singleton.mp hq]; exact hz))) fun w e ow r m => r.keep kk fun z hz hq => npp z (m z hz) (List.mem_singleton.mp hq)
          rw [hvs] at this
          exact this)
        g6 g7 (fun z hz => .inl hz)
      have k2 : Kp H (T ++ ([] ++ os)) [b] (upd H b (.lst ws.dropLast)) (T ++ ([] ++ os')) := ⟨fun z _ hz => upd_ne fun e => hz (by rw [e]; simp), fun z hz => .inl (by
          simp only [List.nil_append, List.mem_append] at hz ⊢
          rcases hz with hz | hz
          · exact .inl hz
          · exact .inr ((hs' z hz).elim _root_.id fun h => nomatch h)), fun z hz => by
          rw [List.mem_singleton.mp hz]
          exact ⟨by
            have : b ∈ os := g4 b (by simp)
            simp [this], by rw [hb]; trivial⟩⟩
      refine q v _ [] os' ⟨l2.keep k2 (fun _ m => nomatch m), s'.rs, s'.nd, ⟨fun z _ hz => upd_ne fun e => hz (by rw [e]; exact g4 b (by simp)), fun z hz => ?_⟩⟩
      exact .inl ((hs' z (by simpa using hz)).elim _root_.id fun h => nomatch h)
  · cases e
end
end Rr

namespace Rr
open PySem PySem.Spec L2

section
variable {X : Cx} {a b c : Expr} {ea eb ec : Ev} {pos p apos : Pos} {C : Fn} {y : Str} {py : Pos} {j : Nat} {x : Str}
/-! bag[0] != [] -/
theorem t_cmb {f : D → D → Option Bool} {i : Int} {σ : L2.St} {H : Hp} {Q : VK} {Qb : Bool → Hp → Prop} {d : D} (hq : ∀ k H', Qb k H' → Q (.bl k) H') {T os : List Addr} {ρ : Rho} {xs : D} {k : Bool}
    (s : SI X.K H T os σ ρ) (e0 : getV ρ j = some xs) (e1 : itemD xs (.int i) = some d) (e2 : f d.fz (.lst false []) = some k) (q : ∀ H' os', SI X.K H' T os' σ ρ → Fr H os H' os' → Qb k H') :
    tOp (rDc X.K f) (tOp (rIxL X.K) (tVar j) (tC (.int i))) (tLst tNil) σ H Q ∨ ∃ ys, xs = .tup ys := by
  obtain ⟨v, pre, oi, post, h1, h2, h3, _⟩ := s.rs.split (getV_some e0)
  have go : ∀ {ad : Addr} {vs : List V} {ds : List D} {o : List Addr}, v = .ref ad → H ad = some (.lst vs) → RepA X.K H (T ++ os) vs ds o → atI ds i = some d → tOp (rDc X.K f) (tOp (rIxL X.K) (tVar j) (tC (.int i))) (tLst tNil) σ H Q := by
    intro ad vs ds o hv hH hr ha
    subst hv
    unfold atI at ha
    obtain ⟨n, a1, a2⟩ := Option.bind_eq_some_iff.mp ha
    obtain ⟨w, _, ow, _, b1, _, b3, _⟩ := hr.get a2
    have hw : atI vs i = some w := by
      unfold atI
      rw [hr.length, a1]
      exact b1
    refine ⟨.ref ad, h1, ad, vs, i, w, rfl, rfl, SqL.of hH, hw, Nat.zero_le _, fun p hp => ?_⟩
    have r1 : Rep X.K H [] w d.fz [] := b3.fz (O' := []) (fun _ m => nomatch m) fun _ _ m => nomatch m
    have k1 : Kp H [] [] (upd H p (.lst [])) [] := kp_new hp fun _ m => nomatch m
    refine ⟨[], d.fz, .lst false [], k, r1.keep k1 (fun _ m => nomatch m), .fr upd_same (fun m => nomatch m) .nil, e2, hq _ _ (q _ os ⟨?_, s.nd, fun z hz => ?_⟩ ⟨fun z hz _ => upd_keep hp z hz, fun z hz => .inl hz⟩)⟩
    · exact s.rs.keep (kp_new hp fun z hz => .inl hz) fun _ _ m => nomatch m
    · rw [upd_keep hp z (s.tr z hz)]; exact s.tr z hz
  generalize hO : T ++ os = O at h3 go
  unfold itemD at e1
  cases h3 with
  | fr hH _ r => exact .inl (go rfl hH r e1)
  | ow hH r => exact .inl (go rfl hH r e1)
  | tup _ _ => exact .inr ⟨_, rfl⟩
  | _ => cases e1
abbrev evCmb (f : D → D → Option Bool) (j : Nat) (i : Int) : Ev := fun ρ => (getV ρ j).bind fun x => if notTup x then (itemD x (.int i)).bind fun d => (f d.fz (.lst false [])).bind fun k => some (.bl k, ρ) else none
theorem r_cmb {op : CmpOp} {f : D → D → Option Bool} {i : Int} {jj : Nat} {p1 p2 p3 : Pos} (ho : OpR X (compareOp op) (rDc X.K f)) (hN : X.N[j]? = some y) (hv : Vis X.env.scope y) (hd : (y == ("__debug__" : Str)) = false) (hc : (y == ("__classdict__" : Str)) = false)
    (hm : behindInMarks op (.List [] p3) = false) : PE X (.Compare (.Subscript (.Name y py) (.Constant (.int i) jj p1) p2) [op] [.List [] p3] pos) (tI X.K (evCmb f j i)) := by
  refine imp (pe_cmpR ho (pe_ix ix_list (pe_var hN hv hd hc) pe_int (fun _ _ => rfl)) (pe_lst pa_nil) hm) fun σ H Q ⟨T, os, ρ, d, ρ', s, e, q⟩ => ?_
  obtain ⟨x0, e0, e⟩ := Option.bind_eq_some_iff.mp e
  cases hx : notTup x0 with
  | false => rw [hx] at e; cases e
  | true =>
    rw [hx] at e
    obtain ⟨d1, e1, e⟩ := Option.bind_eq_some_iff.mp e
    obtain ⟨k, e2, e⟩ := Option.bind_eq_some_iff.mp e
    cases e
    rcases t_cmb (Qb := fun k H' => Q (.bl k) H') (fun _ _ z => z) s e0 e1 e2 fun H' os' s' f' => q _ H' [] os' (fin s' f' (.same (.bl _))) with h | ⟨ys, h⟩
    · exact h
    · rw [h] at hx; cases hx
theorem r_cmbT {op : CmpOp} {f : D → D → Option Bool} {i : Int} {jj : Nat} {p1 p2 p3 : Pos} (ho : OpR X (compareOp op) (rDc X.K f)) (hN : X.N[j]? = some y) (hv : Vis X.env.scope y) (hd : (y == ("__debug__" : Str)) = false) (hc : (y == ("__classdict__" : Str)) = false)
    (hm : behindInMarks op (.List [] p3) = false) : PT X (.Compare (.Subscript (.Name y py) (.Constant (.int i) jj p1) p2) [op] [.List [] p3] pos) (tT X.K (evCmb f j i)) := by
  refine impT (pt_cmpR ho (pe_ix ix_list (pe_var hN hv hd hc) pe_int (fun _ _ => rfl)) (pe_lst pa_nil) hm) fun σ H Q ⟨T, os, ρ, k', ρ', s, e, q⟩ => ?_
  obtain ⟨x0, e0, e⟩ := Option.bind_eq_some_iff.mp e
  cases hx : notTup x0 with
  | false => rw [hx] at e; cases e
  | true =>
    rw [hx] at e
    obtain ⟨d1, e1, e⟩ := Option.bind_eq_some_iff.mp e
    obtain ⟨k, e2, e⟩ := Option.bind_eq_some_iff.mp e
    cases e
    rcases t_cmb (Q := fun x H' => ∃ k, x = .bl k ∧ Q k H') (Qb := fun k H' => Q k H') (fun k _ z => ⟨k, rfl, z⟩) s e0 e1 e2 q with h | ⟨ys, h⟩
    · exact h
    · rw [h] at hx; cases hx
/-! built-ins, called -/
theorem t_blt {f : D → Option D} {σ : L2.St} {H : Hp} {Q : VK} (h : tI X.K (fun ρ => (ea ρ).bind fun p => (f p.1.fz).bind fun d => some (d, p.2)) σ H Q) : tCB (rB X.K f) (tCons (tI X.K ea) tNil) σ H Q := by
  obtain ⟨T, os, ρ, d, ρ', s, e, q⟩ := h
  obtain ⟨p1, e1, e⟩ := Option.bind_eq_some_iff.mp e
  obtain ⟨d2, e2, e⟩ := Option.bind_eq_some_iff.mp e
  cases e
  refine ⟨T, os, ρ, p1.1, p1.2, s, e1, fun v1 H1 ov1 os1 o1 => ?_⟩
  obtain ⟨s1, f1, r1⟩ := one s o1
  exact ⟨T ++ os1, v1, _, d, rfl, r1, e2, fun v H' ov pr => q v H' ov os1 (fin s1 f1 pr)⟩
theorem r_bltB {f : D → Option D} {id : String} (hc : CallR X (.builtin id) (rB X.K f)) (hg : Gl X x) (hm : X.mg x = none) (hv : bootBuiltins x = some (.builtin id)) (ha : PE X a (tI X.K ea)) (hn : x ≠ "__name__") (hdb : (x == ("__debug__" : Str)) = false)
    (hs : starEach [a] X.env = [(false, eval a X.env)]) : PE X (.Call (.Name x p) [a] [] pos) (tI X.K fun ρ => (ea ρ).bind fun p => (f p.1.fz).bind fun d => some (d, p.2)) :=
  imp (pe_callB hc hg hm hv (pa_cons ha pa_nil hs) hn hdb hs rfl) fun _ _ _ h => t_blt h
theorem r_bltT {f : D → Option D} {id : String} (hc : CallR X (.type id) (rB X.K f)) (hg : Gl X x) (hm : X.mg x = none) (hv : bootBuiltins x = some (.type id)) (ha : PE X a (tI X.K ea)) (hn : x ≠ "__name__") (hdb : (x == ("__debug__" : Str)) = false)
    (hs : starEach [a] X.env = [(false, eval a X.env)]) : PE X (.Call (.Name x p) [a] [] pos) (tI X.K fun ρ => (ea ρ).bind fun p => (f p.1.fz).bind fun d => some (d, p.2)) :=
  imp (pe_callTy hc hg hm hv (pa_cons ha pa_nil hs) hn hdb hs rfl) fun _ _ _ h => t_blt h
theorem r_lnv (hg : Gl X "len") (hm : X.mg "len" = none) (hN : X.N[j]? = some y) (hv : Vis X.env.scope y) (hd : (y == ("__debug__" : Str)) = false) (hc : (y == ("__classdict__" : Str)) = false) :
    PE X (.Call (.Name "len" p) [.Name y py] [] pos) (tI X.K (den C (.lnv j))) := by
  refine imp (pe_callB call_len hg hm PySem.boot_len (pa_cons (pe_var hN hv hd hc) pa_nil rfl)) fun σ H Q ⟨T, os, ρ, d, ρ', s, e, q⟩ => ?_
  rw [den] at e
  obtain ⟨x0, e0, e⟩ := Option.bind_eq_some_iff.mp e
  obtain ⟨d1, e1, e⟩ := Option.bind_eq_some_iff.mp e
  cases e
  obtain ⟨v, pre, oi, post, h1, h2, h3, _⟩ := s.rs.split (getV_some e0)
  obtain ⟨n, hn, rfl⟩ := len_of h3 e1
  exact ⟨v, h1, v, n, rfl, hn, q _ H [] os (fin s (.refl fun a m => m) (.same (.int _)))⟩
def TY.nm : TY → String
  | .int => "int"
  | .bool => "bool"
  | .str => "str"
  | .tuple => "tuple"
  | .list => "list"
def tyOf : D → Option String
  | .non => some "NoneType"
  | .bl _ => some "bool"
  | .int _ => some "int"
  | .str _ => some "str"
  | .tup _ => some "tuple"
  | .lst _ _ => some "list"
  | _ => none
theorem ty_fact (t : TY) (d : D) (b : Bool) (h : tyD t d = some b) : ∃ n, tyOf d = some n ∧ kitB n t.nm = some b := by
  cases d with
  | scr _ => cases t <;> cases h
  | dct _ _ _ => cases t <;> cases h
  | non => cases t <;> cases h <;> exact ⟨_, rfl, by decide +kernel⟩
  | bl _ => cases t <;> cases h <;> exact ⟨_, rfl, by decide +kernel⟩
  | int _ => cases t <;> cases h <;> exact ⟨_, rfl, by decide +kernel⟩
  | str _ => cases t <;> cases h <;> exact ⟨_, rfl, by decide +kernel⟩
  | tup _ => cases t <;> cases h <;> exact ⟨_, rfl, by decide +kernel⟩
  | lst _ _ => cases t <;> cases h <;> exact ⟨_, rfl, by decide +kernel⟩
theorem Rep.ty {K : PySem.W.Frag} {H : Hp} {O : List Addr} {v : V} {d : D} {o : List Addr} {n : String} (r : Rep K H O v d o) (h : tyOf d = some n) : TyX K H v (.type n) := by
  cases r with
  | non => cases h; exact .base .non
  | bl b => cases h; exact .base (.bl b)
  | int i => cases h; exact .base (.int i)
  | str s => cases h; exact .base (.str s)
  | scr _ => cases h
  | tup e _ => cases h; exact .base (.tup e)
  | fr e _ _ => cases h; exact .base (.lst e)
  | ow e _ => cases h; exact .base (.lst e)
theorem r_isi {t : TY} {tn : Str} {pt : Pos} (hg : Gl X "isinstance") (hm : X.mg "isinstance" = none) (hgt : Gl X tn) (hmt : X.mg tn = none) (hbt : bootBuiltins tn = some (.type t.nm)) (hn : tn ≠ "__name__") (hdt : (tn == ("__debug__" : Str)) = false)
    (ha : PE X a (tI X.K ea)) (hs : starEach [a, .Name tn pt] X.env = (false, eval a X.env) :: starEach [.Name tn pt] X.env) :
    PE X (.Call (.Name "isinstance" p) [a, .Name tn pt] [] pos) (tI X.K fun ρ => (ea ρ).bind fun p => (tyD t p.1.fz).bind fun b => some (.bl b, p.2)) := by
  refine imp (pe_callB call_isi hg hm PyProof.Rows.boot_isinstance (pa_cons ha (pa_cons (pe_bltn (v := .ty t.nm) hgt hmt hbt rfl hn hdt) pa_nil rfl) hs) (by decide) (by decide) hs (by rfl)) fun σ H Q ⟨T, os, ρ, d, ρ', s, e, q⟩ => ?_
  obtain ⟨p1, e1, e⟩ := Option.bind_eq_some_iff.mp e
  obtain ⟨k, e2, e⟩ := Option.bind_eq_some_iff.mp e
  cases e
  refine ⟨T, os, ρ, p1.1, p1.2, s, e1, fun v1 H1 ov1 os1 o1 => ?_⟩
  obtain ⟨s1, f1, r1⟩ := one s o1
  obtain ⟨n, h1, h2⟩ := ty_fact t _ k e2
  exact ⟨v1, .ty t.nm, .type n, .type t.nm, k, rfl, .ty _, r1.ty h1, kit_ty h2, q _ H1 [] os1 (fin s1 f1 (.same (.bl _)))⟩
/-! list(reversed(l)), list(range(..)), tuple(range(..)) -/
theorem pe_rvl {ta : TE} {p2 pos2 : Pos} (hg : Gl X "list") (hm : X.mg "list" = none) (hg2 : Gl X "reversed") (hm2 : X.mg "reversed" = none) (hcalm : X.calm = true) (ha : PE X a ta) (hs : starEach [a] X.env = [(false, eval a X.env)]) :
    PE X (.Call (.Name "list" p) [.Call (.Name "reversed" p2) [a] [] pos2] [] pos) (fun σ H Q => ta σ H fun x H1 => ∃ l xs, x = .ref l ∧ SqL X.K H1 l xs ∧ ∀ q, H1 q = none → Q (.ref q) (upd H1 q (.lst xs.reverse))) := by
  refine ⟨fun pins s σ H Q I h => ?_⟩
  refine PyProof.Rows.Call_ (ld_blt I hg hm PyProof.Rows.boot_list (PyProof.Rows.callWith_type1 (PyProof.Rows.args_cons (thn (Q := fun v s2 => ∃ (s1 : Shared) (l : Addr) (xs : List V) (H1 : Hp), Inv X pins σ H1 s1 ∧ SqL X.K H1 l xs ∧
      v = .ref s1.heap.objs.size ∧ (∃ its : List Value, Vals xs its ∧ PlainL s1.heap l its.toArray ∧ xs.length ≤ sizeLine ∧ s2 = { s1 with heap := s1.heap.push (revObj l ((its.toArray.size : Int) - 1)) }) ∧
      ∀ q, H1 q = none → Q (.ref q) (upd H1 q (.lst xs.reverse))) ?_ fun v s2 ⟨s1, l, xs, H1, I1, hS, ev, ⟨its, rv, pl, hz, es⟩, q⟩ => PyProof.Rows.args_nil ?_) rfl) rfl))
  · refine PyProof.Rows.Call_ (ld_blt I hg2 hm2 PyProof.Rows.boot_reversed (PyProof.Rows.callWith_type1 (one_arg ha I h (fun v s1 x H1 I1 r q => ?_) hs) hs))
    obtain ⟨l, xs, rfl, hS, q⟩ := q
    cases r
    obtain ⟨its, rv, pl, hz⟩ := I1.list hS
    exact call_reversed_list pl.isList ⟨s1, l, xs, H1, I1, hS, rfl, ⟨its, rv, pl, hz, rfl⟩, q⟩
  · subst ev es
    have hlt : l < s1.heap.objs.size := by
      obtain ⟨o, _, e, _⟩ := pl
      exact Heap.lt_size e
    have hr : RevAt (s1.heap.push (revObj l ((its.toArray.size : Int) - 1))) s1.heap.objs.size l its.toArray := ⟨⟨_, Heap.get?_push_size _ rfl, rfl, rfl⟩, pl.isList.push _⟩
    have hsz : its.toArray.size = xs.length := by rw [List.size_toArray]; exact rv.length.symm
    refine rvl_call (s := { s1 with heap := s1.heap.push (revObj l ((its.toArray.size : Int) - 1)) }) (I1.ok.hd hcalm) hr (Nat.ne_of_lt hlt) (by rw [hsz]; exact hz) fun h' tk acc c' k e got => ?_
    have hD : s1.heap.objs.size ≤ (s1.heap.push (revObj l ((its.toArray.size : Int) - 1))).objs.size := by rw [Heap.size_push]; exact Nat.le_succ _
    refine ⟨.ref _, _, I1.laid (t' := tk) (o := .lst xs.reverse) (fun b u eb => k b u (Nat.ne_of_lt (Heap.lt_size eb)) (Heap.get?_push_of_some _ eb)) hD ⟨by rw [List.length_reverse]; exact hz, acc.toList, c', ?_, by rw [Array.toArray_toList]; exact e⟩, rfl, q _ (I1.hok.fresh hD)⟩
    refine vals_of_at ?_ fun n w u hw hu => ?_
    · have g1 := got.1
      rw [hsz] at g1
      rw [List.length_reverse, Array.length_toList]
      exact g1.symm
    · have hu' : acc[n]? = some u := by rw [← Array.getElem?_toList]; exact hu
      have h2 := got.2 n u hu'
      have hn : n < xs.length := by
        have := (List.getElem?_eq_some_iff.mp hw).1
        rw [List.length_reverse] at this; exact this
      rw [List.getElem?_reverse hn] at hw
      obtain ⟨u', h3, h4⟩ := rv.get hw
      have h5 : its.toArray[its.toArray.size - 1 - n]? = some u' := by
        rw [hsz]
        simpa using h3
      rw [h5] at h2
      cases h2
      exact h4
theorem RepA.rev {K : PySem.W.Frag} {H : Hp} {O : List Addr} : ∀ {vs : List V} {ds : List D}, RepA K H O vs ds [] → RepA K H O vs.reverse ds.reverse [] := by
  intro vs
  induction vs with
  | nil => intro ds r; cases r; exact .nil
  | cons v vs ih =>
    intro ds r
    generalize ho : ([] : List Addr) = o at r
    cases r with
    | cons r t =>
      obtain ⟨e1, e2⟩ := nil_of_app ho.symm
      subst e1 e2
      rw [List.reverse_cons, List.reverse_cons]
      exact (ih t).snoc r
theorem r_rvl {p2 pos2 : Pos} (hg : Gl X "list") (hm : X.mg "list" = none) (hg2 : Gl X "reversed") (hm2 : X.mg "reversed" = none) (hcalm : X.calm = true) (ha : PE X a (tI X.K ea)) (hs : starEach [a] X.env = [(false, eval a X.env)]) :
    PE X (.Call (.Name "list" p) [.Call (.Name "reversed" p2) [a] [] pos2] [] pos) (tI X.K fun ρ => (ea ρ).bind fun p => match p.1.fz with
      | .lst _ xs => some (.lst true xs.reverse, p.2)
      | _ => none) := by
  refine imp (pe_rvl hg hm hg2 hm2 hcalm ha hs) fun σ H Q ⟨T, os, ρ, d, ρ', s, e, q⟩ => ?_
  obtain ⟨p1, e1, e⟩ := Option.bind_eq_some_iff.mp e
  refine ⟨T, os, ρ, p1.1, p1.2, s, e1, fun v1 H1 ov1 os1 o1 => ?_⟩
  obtain ⟨s1, f1, r1⟩ := one s o1
  generalize p1.1.fz = z at e r1
  generalize ho : ([] : List Addr) = o at r1
  cases r1 with
  | fr h _ r =>
    cases e
    exact ⟨_, _, rfl, SqL.of h, fun l hl => q _ _ _ os1 (fin s1 f1 (.list hl r.rev))⟩
  | ow _ _ => cases ho
  | _ => cases e
theorem ints_rg (K : PySem.W.Frag) (H : Hp) (O : List Addr) (lo hi : Int) : RepA K H O (rgV lo hi) (intsD lo (hi - lo).toNat) [] := by
  unfold rgV intsD
  generalize (hi - lo).toNat = n
  have : ∀ l : List Nat, RepA K H O (l.map fun i => V.int (lo + (i : Nat))) (l.map fun (k : Nat) => D.int (lo + (k : Int))) [] := by
    intro l
    induction l with
    | nil => exact .nil
    | cons k l ih =>
      have := RepA.cons (K := K) (H := H) (O := O) (.int (lo + (k : Int))) ih
      exact this
  exact this _
theorem intsD_len (lo : Int) (n : Nat) : (intsD lo n).length = n := by unfold intsD; rw [List.length_map, List.length_range]
theorem small62_of {i : Int} (h : small62 i = true) : -(2 ^ 62) ≤ i ∧ i < 2 ^ 62 := by
  have := of_decide_eq_true h
  omega
/-- a range's bounds -/
abbrev evR1 (ea : Ev) : Rho → Option (Int × Int × Rho) := fun ρ => (ea ρ).bind fun p => match p.1 with
    | .int n => if small62 n then some (0, n, p.2) else none
    | _ => none
abbrev evR2 (ea eb : Ev) : Rho → Option (Int × Int × Rho) := fun ρ => (ea ρ).bind fun p => (eb p.2).bind fun q => match p.1, q.1 with
    | .int i, .int j => if small62 i && small62 j then some (i, j, q.2) else none
    | _, _ => none
def tR (K : PySem.W.Frag) (ev : Rho → Option (Int × Int × Rho)) : L2.St → Hp → (Int → Int → Hp → Prop) → Prop := fun σ H Q => ∃ T os ρ lo hi ρ', SI K H T os σ ρ ∧ ev ρ = some (lo, hi, ρ') ∧
  ∀ H' os', SI K H' T os' σ ρ' → Fr H os H' os' → Q lo hi H'
theorem t_r1 {σ : L2.St} {H : Hp} {Q : Int → Int → Hp → Prop} (h : tR X.K (evR1 ea) σ H Q) : tRg1 (tI X.K ea) σ H Q := by
  obtain ⟨T, os, ρ, lo, hi, ρ', s, e, q⟩ := h
  obtain ⟨⟨d1, r1⟩, e1, e⟩ := Option.bind_eq_some_iff.mp e
  refine ⟨T, os, ρ, d1, r1, s, e1, fun v1 H1 ov1 os1 o1 => ?_⟩
  cases d1 with
  | int n =>
    simp only at e
    split at e <;> cases e
    have rv := o1.rv
    cases rv
    exact ⟨_, rfl, q H1 os1 (o1.drop s).1 (o1.drop s).2⟩
  | _ => cases e
theorem t_r2 {σ : L2.St} {H : Hp} {Q : Int → Int → Hp → Prop} (h : tR X.K (evR2 ea eb) σ H Q) : tRg2 (tI X.K ea) (tI X.K eb) σ H Q := by
  obtain ⟨T, os, ρ, lo, hi, ρ', s, e, q⟩ := h
  obtain ⟨⟨d1, r1⟩, e1, e⟩ := Option.bind_eq_some_iff.mp e
  obtain ⟨⟨d2, r2⟩, e2, e⟩ := Option.bind_eq_some_iff.mp e
  refine ⟨T, os, ρ, d1, r1, s, e1, fun v1 H1 ov1 os1 o1 => ⟨T ++ ov1, os1, r1, d2, r2, o1.next s, e2, fun v2 H2 ov2 os2 o2 => ?_⟩⟩
  cases d1 with
  | int n =>
    cases d2 with
    | int m =>
      simp only at e
      split at e <;> cases e
      have rv := o1.rv
      cases rv
      have rv := o2.rv
      cases rv
      obtain ⟨s2, f2, _, _⟩ := two s o1 o2
      exact ⟨_, _, rfl, rfl, q H2 os2 s2 f2⟩
    | _ => cases e
  | _ => cases e
theorem r1_small {ρ : Rho} {lo hi : Int} {ρ' : Rho} (h : evR1 ea ρ = some (lo, hi, ρ')) : small62 lo = true ∧ small62 hi = true := by
  obtain ⟨⟨d1, r1⟩, e1, e⟩ := Option.bind_eq_some_iff.mp h
  cases d1 with
  | int n =>
    simp only at e
    split at e <;> cases e
    exact ⟨by decide, by assumption⟩
  | _ => cases e
theorem r2_small {ρ : Rho} {lo hi : Int} {ρ' : Rho} (h : evR2 ea eb ρ = some (lo, hi, ρ')) : small62 lo = true ∧ small62 hi = true := by
  obtain ⟨⟨d1, r1⟩, e1, e⟩ := Option.bind_eq_some_iff.mp h
  obtain ⟨⟨d2, r2⟩, e2, e⟩ := Option.bind_eq_some_iff.mp e
  cases d1 with
  | int n =>
    cases d2 with
    | int m =>
      simp only at e
      split at e <;> cases e
      rename_i hz
      exact Bool.and_eq_true_iff.mp hz
    | _ => cases e
  | _ => cases e
theorem r_lrg {e : Expr} {ev : Rho → Option (Int × Int × Rho)} {te : L2.St → Hp → (Int → Int → Hp → Prop) → Prop} (hcalm : X.calm = true) (hg : Gl X "list") (hm : X.mg "list" = none) (he : PRg X e te) (hi : ∀ σ H Q, tR X.K ev σ H Q → te σ H Q) (hsm : ∀ ρ lo hi ρ', ev ρ = some (lo, hi, ρ') → small62 lo = true ∧ small62 hi = true)
    (hs : starEach [e] X.env = [(false, eval e X.env)]) :
    PE X (.Call (.Name "list" p) [e] [] pos) (tI X.K fun ρ => (ev ρ).bind fun r => if (r.2.1 - r.1).toNat ≤ lim then some (.lst true (intsD r.1 (r.2.1 - r.1).toNat), r.2.2) else none) := by
  refine imp (pe_listRg hcalm hg hm he hs) fun σ H Q ⟨T, os, ρ, d, ρ', s, e, q⟩ => hi _ _ _ ?_
  obtain ⟨⟨lo, hi, r⟩, e1, e⟩ := Option.bind_eq_some_iff.mp e
  split at e <;> cases e
  rename_i hz
  refine ⟨T, os, ρ, lo, hi, r, s, e1, fun H1 os1 s1 f1 => ⟨?_, fun l hl => q _ _ _ os1 (fin s1 f1 (.list hl (ints_rg _ _ _ _ _)))⟩⟩
  obtain ⟨z1, z2⟩ := hsm _ _ _ _ e1
  have a1 := small62_of z1
  have a2 := small62_of z2
  have z3 : (hi - lo).toNat ≤ 1000000 := hz
  exact ⟨a1.1, a1.2, a2.1, a2.2, by omega⟩
theorem r_trg {e : Expr} {ev : Rho → Option (Int × Int × Rho)} {te : L2.St → Hp → (Int → Int → Hp → Prop) → Prop} (hcalm : X.calm = true) (hg : Gl X "tuple") (hm : X.mg "tuple" = none) (he : PRg X e te) (hi : ∀ σ H Q, tR X.K ev σ H Q → te σ H Q) (hsm : ∀ ρ lo hi ρ', ev ρ = some (lo, hi, ρ') → small62 lo = true ∧ small62 hi = true)
    (hs : starEach [e] X.env = [(false, eval e X.env)]) :
    PE X (.Call (.Name "tuple" p) [e] [] pos) (tI X.K fun ρ => (ev ρ).bind fun r => if (r.2.1 - r.1).toNat ≤ lim then some (.tup (intsD r.1 (r.2.1 - r.1).toNat), r.2.2) else none) := by
  refine imp (pe_tupRg hcalm hg hm he hs) fun σ H Q ⟨T, os, ρ, d, ρ', s, e, q⟩ => hi _ _ _ ?_
  obtain ⟨⟨lo, hi, r⟩, e1, e⟩ := Option.bind_eq_some_iff.mp e
  split at e <;> cases e
  rename_i hz
  refine ⟨T, os, ρ, lo, hi, r, s, e1, fun H1 os1 s1 f1 => ⟨?_, fun l hl => q _ _ _ os1 (fin s1 f1 (.tup hl (ints_rg _ _ _ _ _)))⟩⟩
  obtain ⟨z1, z2⟩ := hsm _ _ _ _ e1
  have a1 := small62_of z1
  have a2 := small62_of z2
  have z3 : (hi - lo).toNat ≤ 1000000 := hz
  exact ⟨a1.1, a1.2, a2.1, a2.2, by omega⟩
end
end Rr

namespace Rr
open PySem PySem.Spec L2

/-! ### a chain of two comparisons -/
section
variable {X : Cx} {a b c : Expr} {ea eb ec : Ev} {pos p : Pos} {C : Fn}
abbrev evCh (f f' : D → D → Option Bool) (ea eb ec : Ev) : Ev := fun ρ => (ea ρ).bind fun p => (eb p.2).bind fun q => (f p.1.fz q.1.fz).bind fun k =>
      match k with
      | true => (ec q.2).bind fun r => (f' q.1.fz r.1.fz).bind fun k' => some (.bl k', r.2)
      | false => some (.bl false, q.2)
theorem t_chain {f f' : D → D → Option Bool} {σ : L2.St} {H : Hp} {Q : VK} {Qb : Bool → Hp → Prop} (hq : ∀ k H', Qb k H' → Q (.bl k) H')
    (h : ∃ T os ρ b ρ', SI X.K H T os σ ρ ∧ evCh f f' ea eb ec ρ = some (.bl b, ρ') ∧ ∀ H' os', SI X.K H' T os' σ ρ' → Fr H os H' os' → Qb b H') :
    tChain (rDc X.K f) (rDc X.K f') (tI X.K ea) (tI X.K eb) (tI X.K ec) σ H Q := by
  obtain ⟨T, os, ρ, kk, ρ', s, e, q⟩ := h
  obtain ⟨p1, e1, e⟩ := Option.bind_eq_some_iff.mp e
  obtain ⟨p2, e2, e⟩ := Option.bind_eq_some_iff.mp e
  obtain ⟨k, e3, e⟩ := Option.bind_eq_some_iff.mp e
  refine ⟨T, os, ρ, p1.1, p1.2, s, e1, fun v1 H1 ov1 os1 o1 => ⟨T ++ ov1, os1, p1.2, p2.1, p2.2, o1.next s, e2, fun v2 H2 ov2 os2 o2 => ?_⟩⟩
  obtain ⟨s2, f2, r1, r2⟩ := two s o1 o2
  refine ⟨T ++ os2, p1.1.fz, p2.1.fz, k, r1, r2, e3, k, rfl, ?_⟩
  cases k with
  | false =>
    cases e
    exact iteF (hq _ _ (q H2 os2 s2 f2))
  | true =>
    obtain ⟨p3, e4, e⟩ := Option.bind_eq_some_iff.mp e
    obtain ⟨k', e5, e⟩ := Option.bind_eq_some_iff.mp e
    cases e
    refine iteT ⟨T, os2, p2.2, p3.1, p3.2, s2, e4, fun v3 H3 ov3 os3 o3 => ?_⟩
    obtain ⟨s3, f3, r3⟩ := one s2 o3
    exact ⟨T ++ os3, p2.1.fz, p3.1.fz, _, r2.keep (f3.kp s2) (fun _ m => nomatch m), r3, e5, hq _ _ (q H3 os3 s3 (f2.trans f3))⟩
theorem ch_bl {f f' : D → D → Option Bool} {ρ : Rho} {d : D} {ρ' : Rho} (e : evCh f f' ea eb ec ρ = some (d, ρ')) : ∃ k, d = .bl k := by
  obtain ⟨p1, e1, e⟩ := Option.bind_eq_some_iff.mp e
  obtain ⟨p2, e2, e⟩ := Option.bind_eq_some_iff.mp e
  obtain ⟨k, e3, e⟩ := Option.bind_eq_some_iff.mp e
  cases k with
  | false => cases e; exact ⟨_, rfl⟩
  | true =>
    obtain ⟨p3, e4, e⟩ := Option.bind_eq_some_iff.mp e
    obtain ⟨k', e5, e⟩ := Option.bind_eq_some_iff.mp e
    cases e; exact ⟨_, rfl⟩
theorem r_chain {op op' : CmpOp} {f f' : D → D → Option Bool} (ho : OpR X (compareOp op) (rDc X.K f)) (ho' : OpR X (compareOp op') (rDc X.K f')) (ha : PE X a (tI X.K ea)) (hb : PE X b (tI X.K eb)) (hc : PE X c (tI X.K ec)) (hm : lastMarks [op, op'] [b, c] = false) :
    PE X (.Compare a [op, op'] [b, c] pos) (tI X.K (evCh f f' ea eb ec)) := by
  refine imp (pe_chain ho ho' ha hb hc hm) fun σ H Q ⟨T, os, ρ, d, ρ', s, e, q⟩ => ?_
  obtain ⟨k, rfl⟩ := ch_bl e
  exact t_chain (Qb := fun k H' => Q (.bl k) H') (fun _ _ z => z) ⟨T, os, ρ, k, ρ', s, e, fun H' os' s' f' => q _ H' [] os' (fin s' f' (.same (.bl _)))⟩
theorem r_chainT {op op' : CmpOp} {f f' : D → D → Option Bool} (ho : OpR X (compareOp op) (rDc X.K f)) (ho' : OpR X (compareOp op') (rDc X.K f')) (ha : PE X a (tI X.K ea)) (hb : PE X b (tI X.K eb)) (hc : PE X c (tI X.K ec)) (hm : lastMarks [op, op'] [b, c] = false) :
    PT X (.Compare a [op, op'] [b, c] pos) (tT X.K (evCh f f' ea eb ec)) := by
  refine impT (pt_chain ho ho' ha hb hc hm) fun σ H Q ⟨T, os, ρ, k, ρ', s, e, q⟩ => ?_
  exact t_chain (Qb := fun k H' => Q k H') (fun k H' z => ⟨k, rfl, z⟩) ⟨T, os, ρ, k, ρ', s, e, q⟩
end

/-! ### what is walked -/
structure Wk (K : PySem.W.Frag) (J : It) (ds : List D) (P : Hp → List Addr → Prop) : Prop where
  keep : ∀ {H O cs H' O'}, Kp H O cs H' O' → P H O → P H' O'
  go : ∀ i H O, i < ds.length → P H O → J.go i H
  stop : ∀ H O, P H O → J.stop ds.length H
  yld : ∀ i H O x H' d, ds[i]? = some d → P H O → J.yld i H x H' → PRes K H O H' x d []
theorem fr_inv {K : PySem.W.Frag} {H : Hp} {O : List Addr} {v : V} {ds : List D} (r : Rep K H O v (.lst false ds) []) : ∃ a vs, v = .ref a ∧ H a = some (.lst vs) ∧ RepA K H O vs ds [] := by
  cases r with
  | fr h _ r => exact ⟨_, _, rfl, h, r⟩
theorem tup_inv {K : PySem.W.Frag} {H : Hp} {O o : List Addr} {v : V} {ds : List D} (r : Rep K H O v (.tup ds) o) : ∃ a vs, v = .ref a ∧ H a = some (.tup vs) ∧ RepA K H O vs ds [] := by
  cases r with
  | tup h r => exact ⟨_, _, rfl, h, r⟩
section
variable {K : PySem.W.Frag} {a b : Addr} {ds es : List D}
theorem wk_list : Wk K (Itl K a) ds fun H O => Rep K H O (.ref a) (.lst false ds) [] := by
  refine ⟨fun k r => r.keep k fun _ m => (nomatch m), fun i H O hi r => ?_, fun H O r => ?_, fun i H O x H' d hd r y => ?_⟩
  · obtain ⟨_, vs, e, h, rr⟩ := fr_inv r
    cases e
    exact walk_list.goes i H (by rw [rr.length]; exact hi) (SqL.of h)
  · obtain ⟨_, vs, e, h, rr⟩ := fr_inv r
    cases e
    rw [← rr.length]
    exact walk_list.stops H (SqL.of h)
  · obtain ⟨_, vs, e, h, rr⟩ := fr_inv r
    cases e
    obtain ⟨v, hv, rv⟩ := rr.nils i d hd
    obtain ⟨e, y⟩ := y
    subst e
    have := y vs (SqL.of h)
    rw [hv] at this
    cases this
    exact .same rv
theorem wk_tup : Wk K (Itt K a) ds fun H O => Rep K H O (.ref a) (.tup ds) [] := by
  refine ⟨fun k r => r.keep k fun _ m => (nomatch m), fun i H O hi r => ?_, fun H O r => ?_, fun i H O x H' d hd r y => ?_⟩
  · obtain ⟨_, vs, e, h, rr⟩ := tup_inv r
    cases e
    exact walk_tup.goes i H (by rw [rr.length]; exact hi) (SqT.of h)
  · obtain ⟨_, vs, e, h, rr⟩ := tup_inv r
    cases e
    rw [← rr.length]
    exact walk_tup.stops H (SqT.of h)
  · obtain ⟨_, vs, e, h, rr⟩ := tup_inv r
    cases e
    obtain ⟨v, hv, rv⟩ := rr.nils i d hd
    obtain ⟨e, y⟩ := y
    subst e
    have := y vs (SqT.of h)
    rw [hv] at this
    cases this
    exact .same rv
theorem wk_range {lo : Int} {n : Nat} : Wk K (Itr lo n) (intsD lo n) fun _ _ => True := by
  refine ⟨fun _ _ => trivial, fun i H O hi _ => ?_, fun H O _ => ?_, fun i H O x H' d hd _ y => ?_⟩
  · rw [intsD_len] at hi
    exact walk_range.goes i H hi trivial
  · rw [intsD_len]
    exact walk_range.stops H trivial
  · obtain ⟨e, y⟩ := y
    subst e y
    unfold intsD at hd
    rw [List.getElem?_map] at hd
    obtain ⟨k, h1, h2⟩ := Option.map_eq_some_iff.mp hd
    rw [List.getElem?_range (by
      have := (List.getElem?_eq_some_iff.mp h1).1
      rw [List.length_range] at this; exact this)] at h1
    cases h1
    subst h2
    exact .same (.int _)
theorem enumD_len (ds : List D) : (enumD ds).length = ds.length := by
  unfold enumD
  rw [List.length_zipWith, List.length_range, Nat.min_self]
theorem enumD_at {ds : List D} {i : Nat} {d : D} (h : (enumD ds)[i]? = some d) : ∃ x, ds[i]? = some x ∧ d = .tup [.int i, x] := by
  unfold enumD at h
  rw [List.getElem?_zipWith] at h
  cases h1 : (List.range ds.length)[i]? with
  | none => rw [h1] at h; cases h
  | some k =>
    have hk : k = i := by
      have hl := (List.getElem?_eq_some_iff.mp h1).1
      rw [List.length_range] at hl
      rw [List.getElem?_range hl] at h1
      cases h1; rfl
    subst hk
    cases h2 : ds[k]? with
    | none => rw [h1, h2] at h; cases h
    | some x =>
      rw [h1, h2] at h
      cases h
      exact ⟨x, rfl, rfl⟩
theorem pair_new {K : PySem.W.Frag} {H : Hp} {O : List Addr} {T : Addr} {x y : V} {d e : D} (hT : H T = none) (r1 : Rep K H O x d []) (r2 : Rep K H O y e []) : PRes K H O (upd H T (.tup [x, y])) (.ref T) (.tup [d, e]) [] := by
  have q := RepA.cons r1 (RepA.cons r2 .nil)
  exact .tup hT q
theorem wk_enum : Wk K (Ite K a) (enumD ds) fun H O => Rep K H O (.ref a) (.lst false ds) [] := by
  refine ⟨fun k r => r.keep k fun _ m => (nomatch m), fun i H O hi r => ?_, fun H O r => ?_, fun i H O x H' d hd r y => ?_⟩
  · obtain ⟨_, vs, e, h, rr⟩ := fr_inv r
    cases e
    rw [enumD_len] at hi
    exact walk_enum.goes i H (by rw [rr.length]; exact hi) (SqL.of h)
  · obtain ⟨_, vs, e, h, rr⟩ := fr_inv r
    cases e
    rw [enumD_len, ← rr.length]
    exact walk_enum.stops H (SqL.of h)
  · obtain ⟨_, vs, e, h, rr⟩ := fr_inv r
    cases e
    obtain ⟨z, hz, rfl⟩ := enumD_at hd
    obtain ⟨v, hv, rv⟩ := rr.nils i z hz
    obtain ⟨T, w, rfl, hT, rfl, h4⟩ := y
    have := h4 vs (SqL.of h)
    rw [hv] at this
    cases this
    exact pair_new hT (.int _) rv
theorem zipD_len (ds es : List D) : (zipD ds es).length = min ds.length es.length := by unfold zipD; rw [List.length_zipWith]
theorem zipD_at {ds es : List D} {i : Nat} {d : D} (h : (zipD ds es)[i]? = some d) : ∃ x y, ds[i]? = some x ∧ es[i]? = some y ∧ d = .tup [x, y] := by
  unfold zipD at h
  rw [List.getElem?_zipWith] at h
  cases h1 : ds[i]? with
  | none => rw [h1] at h; cases h
  | some x =>
    cases h2 : es[i]? with
    | none => rw [h1, h2] at h; cases h
    | some y =>
      rw [h1, h2] at h
      cases h
      exact ⟨x, y, rfl, rfl, rfl⟩
theorem wk_zip : Wk K (Itz K a b) (zipD ds es) fun H O => Rep K H O (.ref a) (.lst false ds) [] ∧ Rep K H O (.ref b) (.lst false es) [] := by
  refine ⟨fun k r => ⟨r.1.keep k fun _ m => (nomatch m), r.2.keep k fun _ m => (nomatch m)⟩, fun i H O hi r => ?_, fun H O r => ?_, fun i H O x H' d hd r y => ?_⟩
  · obtain ⟨_, vs, e, h, rr⟩ := fr_inv r.1
    cases e
    obtain ⟨_, ws, e, h', rr'⟩ := fr_inv r.2
    cases e
    rw [zipD_len, ← rr.length, ← rr'.length] at hi
    exact (walk_zip rfl).goes i H hi ⟨SqL.of h, SqL.of h'⟩
  · obtain ⟨_, vs, e, h, rr⟩ := fr_inv r.1
    cases e
    obtain ⟨_, ws, e, h', rr'⟩ := fr_inv r.2
    cases e
    rw [zipD_len, ← rr.length, ← rr'.length]
    exact (walk_zip rfl).stops H ⟨SqL.of h, SqL.of h'⟩
  · obtain ⟨_, vs, e, h, rr⟩ := fr_inv r.1
    cases e
    obtain ⟨_, ws, e, h', rr'⟩ := fr_inv r.2
    cases e
    obtain ⟨z, z', hz, hz', rfl⟩ := zipD_at hd
    obtain ⟨v, hv, rv⟩ := rr.nils i z hz
    obtain ⟨v', hv', rv'⟩ := rr'.nils i z' hz'
    obtain ⟨T, w, w', rfl, hT, rfl, h4, h5⟩ := y
    have := h4 vs (SqL.of h)
    rw [hv] at this
    cases this
    have := h5 ws (SqL.of h')
    rw [hv'] at this
    cases this
    exact pair_new hT rv rv'
theorem wk_zipT : Wk K (RZ.ItzT K a b) (zipD ds es) fun H O => Rep K H O (.ref a) (.tup ds) [] ∧ Rep K H O (.ref b) (.tup es) [] := by
  refine ⟨fun k r => ⟨r.1.keep k fun _ m => (nomatch m), r.2.keep k fun _ m => (nomatch m)⟩, fun i H O hi r => ?_, fun H O r => ?_, fun i H O x H' d hd r y => ?_⟩
  · obtain ⟨_, vs, e, h, rr⟩ := tup_inv r.1
    cases e
    obtain ⟨_, ws, e, h', rr'⟩ := tup_inv r.2
    cases e
    rw [zipD_len, ← rr.length, ← rr'.length] at hi
    have h1 : i < vs.length := by omega
    have h2 : i < ws.length := by omega
    exact ⟨vs, ws, vs[i], ws[i], SqT.of h, SqT.of h', by simp [h1], by simp [h2]⟩
  · obtain ⟨_, vs, e, h, rr⟩ := tup_inv r.1
    cases e
    obtain ⟨_, ws, e, h', rr'⟩ := tup_inv r.2
    cases e
    rw [zipD_len, ← rr.length, ← rr'.length]
    exact ⟨vs, ws, SqT.of h, SqT.of h', by omega⟩
  · obtain ⟨_, vs, e, h, rr⟩ := tup_inv r.1
    cases e
    obtain ⟨_, ws, e, h', rr'⟩ := tup_inv r.2
    cases e
    obtain ⟨z, z', hz, hz', rfl⟩ := zipD_at hd
    obtain ⟨v, hv, rv⟩ := rr.nils i z hz
    obtain ⟨v', hv', rv'⟩ := rr'.nils i z' hz'
    obtain ⟨T, w, w', rfl, hT, rfl, h4, h5⟩ := y
    have := h4 vs (SqT.of h)
    rw [hv] at this
    cases this
    have := h5 ws (SqT.of h')
    rw [hv'] at this
    cases this
    exact pair_new hT rv rv'
end
abbrev EvI := Rho → Option (List D × Rho)
def tIt (K : PySem.W.Frag) (ev : EvI) : TI := fun σ H R => ∃ T os ρ ds ρ', SI K H T os σ ρ ∧ ev ρ = some (ds, ρ') ∧
  ∀ J P H1 os1, SI K H1 T os1 σ ρ' → Fr H os H1 os1 → Wk K J ds P → P H1 (T ++ os1) → R J H1
theorem impI {X : Cx} {tg e : Expr} {t t' : TI} (h : PI X tg e t) (i : ∀ σ H R, t' σ H R → t σ H R) : PI X tg e t' :=
  ⟨fun pins s σ H R I q => h.run pins s σ H R I (i σ H R q)⟩
def iSeq (K : PySem.W.Frag) (tl : TE) : TI := fun σ H R => tl σ H fun x H1 => ∃ a, x = .ref a ∧ (((∃ xs, SqL K H1 a xs) ∧ R (Itl K a) H1) ∨ ((∃ xs, SqT K H1 a xs) ∧ R (Itt K a) H1))
section
variable {X : Cx} {a b c tg : Expr} {ea eb ec : Ev} {pos p : Pos} {C : Fn}
theorem pi_seq {l : Expr} {tl : TE} (hl : PE X l tl) : PI X tg l (iSeq X.K tl) := by
  refine ⟨fun pins s σ H R I h => thn (hl.run pins s σ H _ I h) fun v s1 z => ?_⟩
  obtain ⟨x, H1, I1, r1, ad, rfl, q1⟩ := z
  cases r1
  have fresh : ∀ bb ∈ [s1.heap.objs.size], FpOk X pins H1 bb := fun bb hb => by
    rw [List.mem_singleton.mp hb]
    exact I1.fpOk (Nat.le_refl _) (I1.hok.fresh (Nat.le_refl _))
  rcases q1 with ⟨⟨xs, hq⟩, q⟩ | ⟨⟨xs, hq⟩, q⟩
  · obtain ⟨its, rv, pl, hz⟩ := I1.list hq
    exact wpAny_pyIter_list pl.isList ⟨s1.heap.objs.size, [s1.heap.objs.size], _, _, H1, rfl, I1.kept (t' := s1.toks) fun bb o e => Heap.get?_push_of_some _ e, turn_list ad _, ⟨_, Heap.get?_push_size _ rfl, rfl, rfl⟩, fresh, q⟩
  · obtain ⟨its, rv, pl, hz⟩ := I1.tuple hq
    exact wpAny_pyIter_tuple (show s1.heap.IsTuple ad its.toArray from pl) ⟨s1.heap.objs.size, [s1.heap.objs.size], _, _, H1, rfl, I1.kept (t' := s1.toks) fun bb o e => Heap.get?_push_of_some _ e, turn_tuple ad _, ⟨_, Heap.get?_push_size _ rfl, rfl, rfl⟩, fresh, q⟩
theorem i_seq (ha : PE X a (tI X.K ea)) : PI X tg a (tIt X.K fun ρ => (ea ρ).bind fun p => (itemsD p.1.fz).bind fun xs => some (xs, p.2)) := by
  refine impI (pi_seq ha) fun σ H R ⟨T, os, ρ, ds, ρ', s, e, q⟩ => ?_
  obtain ⟨p1, e1, e⟩ := Option.bind_eq_some_iff.mp e
  obtain ⟨xs, e2, e⟩ := Option.bind_eq_some_iff.mp e
  cases e
  refine ⟨T, os, ρ, p1.1, p1.2, s, e1, fun v1 H1 ov1 os1 o1 => ?_⟩
  obtain ⟨s1, f1, r1⟩ := one s o1
  have nf := D.fz_not p1.1
  generalize p1.1.fz = z at e2 r1 nf
  unfold itemsD at e2
  split at e2 <;> cases e2
  · rename_i o
    cases o with
    | true => cases nf
    | false =>
      obtain ⟨ad, vs, rfl, h, _⟩ := fr_inv r1
      exact ⟨ad, rfl, .inl ⟨⟨vs, SqL.of h⟩, q _ _ H1 os1 s1 f1 wk_list r1⟩⟩
  · obtain ⟨ad, vs, rfl, h, _⟩ := tup_inv r1
    exact ⟨ad, rfl, .inr ⟨⟨vs, SqT.of h⟩, q _ _ H1 os1 s1 f1 wk_tup r1⟩⟩
theorem i_rng1 (hg : Gl X "range") (hm : X.mg "range" = none) (ha : PE X a (tI X.K ea)) (hs : starEach [a] X.env = [(false, eval a X.env)]) :
    PI X tg (.Call (.Name "range" p) [a] [] pos) (tIt X.K fun ρ => (evR1 ea ρ).bind fun r => some (intsD r.1 (r.2.1 - r.1).toNat, r.2.2)) := by
  refine impI (pi_range1 hg hm (pa_cons ha pa_nil hs) hs) fun σ H R ⟨T, os, ρ, ds, ρ', s, e, q⟩ => ?_
  obtain ⟨⟨lo, hi, r⟩, e1, e⟩ := Option.bind_eq_some_iff.mp e
  cases e
  obtain ⟨⟨d1, r1⟩, e1, e⟩ := Option.bind_eq_some_iff.mp e1
  refine ⟨T, os, ρ, d1, r1, s, e1, fun v1 H1 ov1 os1 o1 => ?_⟩
  cases d1 with
  | int n =>
    simp only at e
    split at e <;> cases e
    rename_i hz
    have rv := o1.rv
    cases rv
    have z := small62_of hz
    refine ⟨_, rfl, z.1, z.2, ?_⟩
    have w := q (Itr 0 hi.toNat) (fun _ _ => True) H1 os1 (o1.drop s).1 (o1.drop s).2
    simp only [Int.sub_zero] at w
    exact w wk_range trivial
  | _ => cases e
theorem i_rng2 (hg : Gl X "range") (hm : X.mg "range" = none) (ha : PE X a (tI X.K ea)) (hb : PE X b (tI X.K eb)) (hs : starEach [a, b] X.env = (false, eval a X.env) :: starEach [b] X.env) (hs2 : starEach [b] X.env = [(false, eval b X.env)]) :
    PI X tg (.Call (.Name "range" p) [a, b] [] pos) (tIt X.K fun ρ => (evR2 ea eb ρ).bind fun r => some (intsD r.1 (r.2.1 - r.1).toNat, r.2.2)) := by
  refine impI (pi_range2 hg hm (pa_cons ha (pa_cons hb pa_nil hs2) hs) (by rw [hs, hs2]) hs2) fun σ H R ⟨T, os, ρ, ds, ρ', s, e, q⟩ => ?_
  obtain ⟨⟨lo, hi, r⟩, e0, e⟩ := Option.bind_eq_some_iff.mp e
  cases e
  have sm := r2_small e0
  obtain ⟨⟨d1, r1⟩, e1, e⟩ := Option.bind_eq_some_iff.mp e0
  obtain ⟨⟨d2, r2⟩, e2, e⟩ := Option.bind_eq_some_iff.mp e
  refine ⟨T, os, ρ, d1, r1, s, e1, fun v1 H1 ov1 os1 o1 => ⟨T ++ ov1, os1, r1, d2, r2, o1.next s, e2, fun v2 H2 ov2 os2 o2 => ?_⟩⟩
  cases d1 with
  | int n =>
    cases d2 with
    | int m =>
      simp only at e
      split at e <;> cases e
      have rv := o1.rv
      cases rv
      have rv := o2.rv
      cases rv
      obtain ⟨s2, f2, _, _⟩ := two s o1 o2
      have z1 := small62_of sm.1
      have z2 := small62_of sm.2
      exact ⟨_, _, rfl, ⟨z1.1, z1.2, z2.1, z2.2⟩, q _ _ H2 os2 s2 f2 wk_range trivial⟩
    | _ => cases e
  | _ => cases e
theorem i_enu {elts : List Expr} {kk : Nat} {tpos : Pos} (hg : Gl X "enumerate") (hm : X.mg "enumerate" = none) (ha : PE X a (tI X.K ea)) (hs : starEach [a] X.env = [(false, eval a X.env)]) :
    PI X (.Tuple elts kk tpos) (.Call (.Name "enumerate" p) [a] [] pos) (tIt X.K fun ρ => (ea ρ).bind fun p => match p.1.fz with
      | .lst _ xs => some (enumD xs, p.2)
      | _ => none) := by
  refine impI (pi_enum hg hm (pa_cons ha pa_nil hs) hs) fun σ H R ⟨T, os, ρ, ds, ρ', s, e, q⟩ => ?_
  obtain ⟨p1, e1, e⟩ := Option.bind_eq_some_iff.mp e
  refine ⟨T, os, ρ, p1.1, p1.2, s, e1, fun v1 H1 ov1 os1 o1 => ?_⟩
  obtain ⟨s1, f1, r1⟩ := one s o1
  have nf := D.fz_not p1.1
  generalize p1.1.fz = z at e r1 nf
  cases z with
  | lst o xs =>
    cases e
    cases o with
    | true => cases nf
    | false =>
      obtain ⟨ad, vs, rfl, h, _⟩ := fr_inv r1
      exact ⟨ad, vs, rfl, SqL.of h, q _ _ H1 os1 s1 f1 wk_enum r1⟩
  | _ => cases e
theorem i_zip {elts : List Expr} {kk : Nat} {tpos : Pos} (hg : Gl X "zip") (hm : X.mg "zip" = none) (ha : PE X a (tI X.K ea)) (hb : PE X b (tI X.K eb)) (hs : starEach [a, b] X.env = (false, eval a X.env) :: starEach [b] X.env) (hs2 : starEach [b] X.env = [(false, eval b X.env)]) :
    PI X (.Tuple elts kk tpos) (.Call (.Name "zip" p) [a, b] [] pos) (tIt X.K fun ρ => (ea ρ).bind fun p => (eb p.2).bind fun q => match p.1.fz, q.1.fz with
      | .lst _ xs, .lst _ ys => some (zipD xs ys, q.2)
      | .tup xs, .tup ys => some (zipD xs ys, q.2)
      | _, _ => none) := by
  refine impI (RZ.pi_zipA hg hm (pa_cons ha (pa_cons hb pa_nil hs2) hs) hs (by rw [hs2]; rfl)) fun σ H R ⟨T, os, ρ, ds, ρ', s, e, q⟩ => ?_
  obtain ⟨p1, e1, e⟩ := Option.bind_eq_some_iff.mp e
  obtain ⟨p2, e2, e⟩ := Option.bind_eq_some_iff.mp e
  refine ⟨T, os, ρ, p1.1, p1.2, s, e1, fun v1 H1 ov1 os1 o1 => ⟨T ++ ov1, os1, p1.2, p2.1, p2.2, o1.next s, e2, fun v2 H2 ov2 os2 o2 => ?_⟩⟩
  obtain ⟨s2, f2, r1, r2⟩ := two s o1 o2
  have nf := D.fz_not p1.1
  generalize p1.1.fz = z at e r1 nf
  have nf2 := D.fz_not p2.1
  generalize p2.1.fz = z2 at e r2 nf2
  cases z with
  | lst o xs =>
    cases z2 with
    | lst o' ys =>
      cases e
      cases o with
      | true => cases nf
      | false =>
        cases o' with
        | true => cases nf2
        | false =>
          obtain ⟨ad, vs, rfl, h, _⟩ := fr_inv r1
          obtain ⟨ad2, vs2, rfl, h2, _⟩ := fr_inv r2
          exact ⟨ad, ad2, vs, vs2, rfl, .inl ⟨SqL.of h, SqL.of h2, q _ _ H2 os2 s2 f2 wk_zip ⟨r1, r2⟩⟩⟩
    | _ => cases e
  | tup xs =>
    cases z2 with
    | tup ys =>
      cases e
      obtain ⟨ad, vs, rfl, h, _⟩ := tup_inv r1
      obtain ⟨ad2, vs2, rfl, h2, _⟩ := tup_inv r2
      exact ⟨ad, ad2, vs, vs2, rfl, .inr ⟨SqT.of h, SqT.of h2, q _ _ H2 os2 s2 f2 wk_zipT ⟨r1, r2⟩⟩⟩
    | _ => cases e
  | _ => cases e
end
end Rr

namespace Rr
open PySem PySem.Spec L2

/-! ### slots forgotten -/
section
variable {K : PySem.W.Frag} {H : Hp} {T os O : List Addr} {σ σ2 : L2.St} {ρ : Rho}
theorem RepS.forget : ∀ {σ : L2.St} {ρ : Rho} {os : List Addr} (ρ2 : Rho), RepS K H O σ ρ os → ρ2.length = ρ.length → (∀ (i : Nat) (d : D), ρ2[i]? = some (some d) → ρ[i]? = some (some d)) → ∃ os2, os2.Sublist os ∧ RepS K H O σ ρ2 os2
  | _, _, _, ρ2, .nil, hl, _ => by
    cases ρ2 with
    | nil => exact ⟨[], .slnil, .nil⟩
    | cons _ _ => simp at hl
  | _, _, _, ρ2, .no t, hl, h => by
    cases ρ2 with
    | nil => simp at hl
    | cons z ρ2 =>
      obtain ⟨os2, h1, h2⟩ := RepS.forget ρ2 t (by simpa using hl) fun i d e => by simpa using h (i + 1) d (by simpa using e)
      cases z with
      | none => exact ⟨os2, h1, .no h2⟩
      | some d => have := h 0 d rfl; simp at this
  | _, _, _, ρ2, .so (d := d0) (o := o) r t, hl, h => by
    cases ρ2 with
    | nil => simp at hl
    | cons z ρ2 =>
      obtain ⟨os2, h1, h2⟩ := RepS.forget ρ2 t (by simpa using hl) fun i d e => by simpa using h (i + 1) d (by simpa using e)
      cases z with
      | none => exact ⟨os2, h1.trans (List.sublist_append_right _ _), .no h2⟩
      | some d =>
        have := h 0 d rfl
        simp at this
        subst this
        exact ⟨o ++ os2, List.Sublist.append (List.Sublist.refl _) h1, .so r h2⟩
theorem RepS.anyno : ∀ {σ : L2.St} {ρ : Rho} {os : List Addr} (σ2 : L2.St), RepS K H O σ ρ os → σ2.length = σ.length → (∀ (i : Nat) (d : D), ρ[i]? = some (some d) → σ2[i]? = σ[i]?) → RepS K H O σ2 ρ os
  | _, _, _, σ2, .nil, hl, _ => by
    cases σ2 with
    | nil => exact .nil
    | cons _ _ => simp at hl
  | _, _, _, σ2, .no t, hl, h => by
    cases σ2 with
    | nil => simp at hl
    | cons z σ2 => exact .no (RepS.anyno σ2 t (by simpa using hl) fun i d e => by simpa using h (i + 1) d (by simpa using e))
  | _, _, _, σ2, .so (d := d0) (o := o) r t, hl, h => by
    cases σ2 with
    | nil => simp at hl
    | cons z σ2 =>
      have h0 := h 0 d0 rfl
      simp at h0
      subst h0
      exact .so r (RepS.anyno σ2 t (by simpa using hl) fun i d e => by simpa using h (i + 1) d (by simpa using e))
theorem SI.forget (s : SI K H T os σ ρ) {ρ2 : Rho} (hl : ρ2.length = ρ.length) (h : ∀ (i : Nat) (d : D), ρ2[i]? = some (some d) → ρ[i]? = some (some d)) : ∃ os2, SI K H T os2 σ ρ2 ∧ ∀ a ∈ os2, a ∈ os := by
  obtain ⟨os2, h1, h2⟩ := s.rs.forget ρ2 hl h
  have sub : ∀ a ∈ os2, a ∈ os := fun a m => h1.subset m
  refine ⟨os2, ⟨h2.sub fun a m => ?_, s.nd.sublist (List.Sublist.append (List.Sublist.refl _) h1), s.tr⟩, sub⟩
  exact (List.mem_append.mp m).elim (fun z => List.mem_append_left _ z) fun z => List.mem_append_right _ (sub a z)
theorem SI.anyno (s : SI K H T os σ ρ) (hl : σ2.length = σ.length) (h : ∀ (i : Nat) (d : D), ρ[i]? = some (some d) → σ2[i]? = σ[i]?) : SI K H T os σ2 ρ := ⟨s.rs.anyno σ2 hl h, s.nd, s.tr⟩
theorem SI.len (s : SI K H T os σ ρ) : σ.length = ρ.length := s.rs.length
theorem mask_len {ρ0 ρ : Rho} (h : ρ0.length = ρ.length) : (mask ρ0 ρ).length = ρ.length := by
  unfold mask
  rw [List.length_zipWith, h, Nat.min_self]
theorem mask_get {ρ0 ρ : Rho} {i : Nat} {d : D} (h : (mask ρ0 ρ)[i]? = some (some d)) : ρ[i]? = some (some d) := by
  unfold mask at h
  rw [List.getElem?_zipWith] at h
  cases h1 : ρ0[i]? with
  | none => rw [h1] at h; cases h
  | some a =>
    cases h2 : ρ[i]? with
    | none => rw [h1, h2] at h; cases h
    | some b =>
      rw [h1, h2] at h
      cases a with
      | none => cases h
      | some a => exact h
theorem SI.mask (s : SI K H T os σ ρ) {ρ0 : Rho} (hl : ρ0.length = ρ.length) : ∃ os2, SI K H T os2 σ (mask ρ0 ρ) ∧ ∀ a ∈ os2, a ∈ os := s.forget (mask_len hl) fun _ _ h => mask_get h
theorem wipeR_len (ρ : Rho) : ∀ own : List Nat, (wipeR ρ own).length = ρ.length
  | [] => rfl
  | v :: vs => by
    show ((wipeR ρ vs).set v none).length = _
    rw [List.length_set, wipeR_len ρ vs]
theorem wipeR_get {ρ : Rho} {i : Nat} {d : D} : ∀ {own : List Nat}, (wipeR ρ own)[i]? = some (some d) → ρ[i]? = some (some d) ∧ i ∉ own
  | [], h => ⟨h, by simp⟩
  | v :: vs, h => by
    have h : ((wipeR ρ vs).set v none)[i]? = some (some d) := h
    by_cases hi : v = i
    · subst hi
      by_cases hv : v < (wipeR ρ vs).length
      · rw [List.getElem?_set_self hv] at h; cases h
      · rw [List.getElem?_eq_none (by simpa using hv)] at h; cases h
    · rw [List.getElem?_set_ne hi] at h
      obtain ⟨h1, h2⟩ := wipeR_get h
      exact ⟨h1, by simp only [List.mem_cons, not_or]; exact ⟨fun e => hi e.symm, h2⟩⟩
theorem wipe_ne {σ : L2.St} {i : Nat} : ∀ {own : List Nat}, i ∉ own → (wipe σ own)[i]? = σ[i]?
  | [], _ => rfl
  | v :: vs, h => by
    simp only [List.mem_cons, not_or] at h
    unfold wipe
    rw [List.getElem?_set_ne (fun e => h.1 e.symm)]
    exact wipe_ne h.2
/-- into a comprehension's block -/
theorem SI.wipe (s : SI K H T os σ ρ) (own : List Nat) : ∃ os2, SI K H T os2 (wipe σ own) (wipeR ρ own) ∧ ∀ a ∈ os2, a ∈ os := by
  obtain ⟨os2, h1, h2⟩ := s.forget (wipeR_len ρ own) fun _ _ h => (wipeR_get h).1
  exact ⟨os2, h1.anyno (wipe_length σ own) fun i d e => wipe_ne (wipeR_get e).2, h2⟩
/-- .. and out of it -/
theorem SI.unwipe {own : List Nat} (s : SI K H T os (L2.wipe σ own) (wipeR ρ own)) : SI K H T os σ (wipeR ρ own) :=
  s.anyno (wipe_length σ own).symm fun i d e => (wipe_ne (wipeR_get e).2).symm
end

/-! ### targets -/
/-- the slots that fx tells stay -/
structure Sx (fx : Nat → Bool) (σ σ' : L2.St) : Prop where
  len : σ'.length = σ.length
  fix : ∀ i : Nat, fx i = true → σ'[i]? = σ[i]?
theorem Sx.refl {fx : Nat → Bool} {σ : L2.St} : Sx fx σ σ := ⟨rfl, fun _ _ => rfl⟩
theorem Sx.trans {fx : Nat → Bool} {σ σ1 σ2 : L2.St} (a : Sx fx σ σ1) (b : Sx fx σ1 σ2) : Sx fx σ σ2 := ⟨b.len.trans a.len, fun i h => (b.fix i h).trans (a.fix i h)⟩
theorem Sx.set {fx : Nat → Bool} {σ : L2.St} {i : Nat} {v : Option V} (h : fx i = false) : Sx fx σ (σ.set i v) := ⟨List.length_set, fun n hn => List.getElem?_set_ne fun e => by rw [e] at h; rw [h] at hn; cases hn⟩
structure VI (K : PySem.W.Frag) (H : Hp) (T ov os : List Addr) (σ : L2.St) (ρ : Rho) (v : V) (d : D) : Prop where
  rv : Rep K H (T ++ (ov ++ os)) v d ov
  rs : RepS K H (T ++ (ov ++ os)) σ ρ os
  nd : (T ++ (ov ++ os)).Nodup
  tr : ∀ a ∈ T, H a ≠ none
structure VIA (K : PySem.W.Frag) (H : Hp) (T ov os : List Addr) (σ : L2.St) (ρ : Rho) (vs : List V) (ds : List D) : Prop where
  rv : RepA K H (T ++ (ov ++ os)) vs ds ov
  rs : RepS K H (T ++ (ov ++ os)) σ ρ os
  nd : (T ++ (ov ++ os)).Nodup
  tr : ∀ a ∈ T, H a ≠ none
abbrev EvT := D → Rho → Option Rho
abbrev EvTs := List D → Rho → Option Rho
def tG (K : PySem.W.Frag) (fx : Nat → Bool) (f : EvT) : TG := fun v σ H Q => ∃ T ov os ρ d ρ', VI K H T ov os σ ρ v d ∧ f d ρ = some ρ' ∧
  ∀ σ' H' os', SI K H' T os' σ' ρ' → Fr H (ov ++ os) H' os' → Sx fx σ σ' → Q σ' H'
def tGs (K : PySem.W.Frag) (fx : Nat → Bool) (f : EvTs) : TGs := fun vs σ H Q => ∃ T ov os ρ ds ρ', VIA K H T ov os σ ρ vs ds ∧ f ds ρ = some ρ' ∧
  ∀ σ' H' os', SI K H' T os' σ' ρ' → Fr H (ov ++ os) H' os' → Sx fx σ σ' → Q σ' H'
theorem impG {X : Cx} {e : Expr} {t t' : TG} (h : PG X e t) (i : ∀ v σ H Q, t' v σ H Q → t v σ H Q) : PG X e t' :=
  ⟨fun pins s σ H v u Q I r q => h.run pins s σ H v u Q I r (i v σ H Q q)⟩
theorem impGs {X : Cx} {e : List Expr} {t t' : TGs} (h : PGs X e t) (i : ∀ v σ H Q, t' v σ H Q → t v σ H Q) : PGs X e t' :=
  ⟨fun pins s σ H v u Q I r q => h.run pins s σ H v u Q I r (i v σ H Q q)⟩
section
variable {K : PySem.W.Frag} {H H1 : Hp} {T ov os os1 : List Addr} {σ : L2.St} {ρ ρ1 : Rho} {v : V} {d : D} {vs : List V} {ds : List D} {fx : Nat → Bool}
theorem Out.vi (o : Out K σ T os H H1 ρ1 v d ov os1) (s : SI K H T os σ ρ) : VI K H1 T ov os1 σ ρ1 v d := ⟨o.rv, o.rs, o.nd, o.fr.trk s⟩
theorem OutA.via (o : OutA K σ T os H H1 ρ1 vs ds ov os1) (s : SI K H T os σ ρ) : VIA K H1 T ov os1 σ ρ1 vs ds := ⟨o.rv, o.rs, o.nd, o.fr.trk s⟩
theorem VI.si (i : VI K H T ov os σ ρ v d) : SI K H (T ++ ov) os σ ρ := by
  refine ⟨by rw [List.append_assoc]; exact i.rs, by rw [List.append_assoc]; exact i.nd, fun a m => ?_⟩
  rcases List.mem_append.mp m with m | m
  · exact i.tr a m
  · intro e
    have := i.rv.mut a m
    rw [e] at this; exact this
/-- one slot, whatever it held -/
theorem VI.put (i : VI K H T ov os σ ρ v d) {k : Nat} (hk : k < ρ.length) : ∃ os', SI K H T os' (σ.set k (some v)) (ρ.set k (some d)) ∧ ∀ a ∈ os', a ∈ ov ++ os := by
  obtain ⟨pre, oi, post, h2, h4⟩ := i.rs.set hk
  subst h2
  have sub : ∀ a ∈ pre ++ (ov ++ post), a ∈ ov ++ (pre ++ (oi ++ post)) := fun a m => by
    simp only [List.mem_append] at m ⊢
    rcases m with m | m | m
    · exact .inr (.inl m)
    · exact .inl m
    · exact .inr (.inr (.inr m))
  have subT : ∀ a ∈ T ++ (pre ++ (ov ++ post)), a ∈ T ++ (ov ++ (pre ++ (oi ++ post))) := fun a m => (List.mem_append.mp m).elim (fun z => List.mem_append_left _ z) fun z => List.mem_append_right _ (sub a z)
  refine ⟨pre ++ (ov ++ post), ⟨h4 H _ v d ov (i.rv.sub subT) fun w e ow r m => r.sub subT, ?_, i.tr⟩, sub⟩
  have h1 : (T ++ (ov ++ (pre ++ post))).Nodup := i.nd.sublist (List.Sublist.append (List.Sublist.refl _) (List.Sublist.append (List.Sublist.refl _) (List.Sublist.append (List.Sublist.refl _) (List.sublist_append_right _ _))))
  refine (List.Perm.nodup_iff ?_).mp h1
  refine List.Perm.append_left T ?_
  rw [← List.append_assoc, ← List.append_assoc]
  exact List.Perm.append_right post List.perm_append_comm
end
section
variable {X : Cx} {a b c : Expr} {ea eb ec : Ev} {pos p : Pos} {C : Fn} {fx : Nat → Bool} {x : Str}
theorem g_nm {i : Nat} (hN : X.N.Nodup) (hi : X.N[i]? = some x) (hx : Loc X.env.scope x) (hf : X.fn x = true ∨ X.env.scope.names.lookup x = some .local) (h0 : fx i = false) : PG X (.Name x pos) (tG X.K fx (denT C (.nm i))) := by
  refine impG (pg_name hN hi hx hf) fun v σ H Q ⟨T, ov, os, ρ, d, ρ', w, e, q⟩ => ?_
  rw [denT] at e
  split at e <;> cases e
  rename_i hk
  obtain ⟨os', s', h⟩ := w.put hk
  exact q _ H os' s' (.refl h) (.set h0)
theorem g_nil : PGs X [] (tGs X.K fx (denTs C .nil)) := by
  refine impGs pgs_nil fun vs σ H Q ⟨T, ov, os, ρ, ds, ρ', w, e, q⟩ => ?_
  cases ds with
  | cons _ _ => rw [denTs] at e <;> cases e
  | nil =>
    rw [denTs] at e
    cases e
    have e1 : vs = [] ∧ ov = [] := by
      have := w.rv
      generalize hds : ([] : List D) = l at this
      cases this with
      | nil => exact ⟨rfl, rfl⟩
      | cons _ _ => cases hds
    obtain ⟨rfl, rfl⟩ := e1
    exact ⟨rfl, q σ H os ⟨w.rs, w.nd, w.tr⟩ (.refl fun _ m => m) .refl⟩
theorem g_cons {e : Expr} {es : List Expr} {f : EvT} {g : EvTs} (h1 : PG X e (tG X.K fx f)) (h2 : PGs X es (tGs X.K fx g)) (hs : (assignEach (e :: es) X.env).map (·.2) = assign e X.env :: (assignEach es X.env).map (·.2)) :
    PGs X (e :: es) (tGs X.K fx fun ds ρ => match ds with
      | d :: ds => (f d ρ).bind fun ρ1 => g ds ρ1
      | [] => none) := by
  refine impGs (pgs_cons h1 h2 hs) fun vs σ H Q ⟨T, ov, os, ρ, ds, ρ', w, e, q⟩ => ?_
  cases ds with
  | nil => cases e
  | cons d ds =>
    obtain ⟨ρ1, e1, e2⟩ := Option.bind_eq_some_iff.mp e
    have rv := w.rv
    generalize hO : T ++ (ov ++ os) = O at rv
    cases rv with
    | @cons v vs _ _ o1 o2 r1 r2 =>
      have hsub : ∀ z, z ∈ (T ++ o2) ++ (o1 ++ os) → z ∈ O := fun z m => by
        subst hO
        simp only [List.mem_append] at m ⊢
        rcases m with (m | m) | m | m
        · exact .inl m
        · exact .inr (.inl (.inr m))
        · exact .inr (.inl (.inl m))
        · exact .inr (.inr m)
      have w1 : VI X.K H (T ++ o2) o1 os σ ρ v d := by
        refine ⟨r1.sub hsub, w.rs.sub fun z m => by rw [hO]; exact hsub z m, ?_, fun z m => ?_⟩
        · refine (List.Perm.nodup_iff ?_).mp w.nd
          rw [List.append_assoc, List.append_assoc]
          refine List.Perm.append_left T ?_
          rw [← List.append_assoc, ← List.append_assoc]
          exact List.Perm.append_right os List.perm_append_comm
        · rcases List.mem_append.mp m with m | m
          · exact w.tr z m
          · intro e
            have := r2.mut z m
            rw [e] at this; exact this
      refine ⟨v, vs, rfl, T ++ o2, o1, os, ρ, d, ρ1, w1, e1, fun σ1 H1 os1 s1 f1 x1 => ?_⟩
      have n1 := w1.nd
      have k : Kp H ((T ++ o2) ++ (o1 ++ os)) (o1 ++ os) H1 ((T ++ o2) ++ os1) := by
        refine ⟨f1.keep, fun z m => ?_, fun z m => ⟨List.mem_append_right _ m, ?_⟩⟩
        · rcases List.mem_append.mp m with m | m
          · exact .inl (List.mem_append_left _ m)
          · exact (f1.sub z m).imp (fun y => List.mem_append_right _ y) _root_.id
        · rcases List.mem_append.mp m with m | m
          · exact r1.mut z m
          · exact w.rs.mut z m
      have hsub2 : ∀ z, z ∈ O → z ∈ (T ++ o2) ++ (o1 ++ os) := fun z m => by
        subst hO
        simp only [List.mem_append] at m ⊢
        rcases m with m | (m | m) | m
        · exact .inl (.inl m)
        · exact .inr (.inl m)
        · exact .inl (.inr m)
        · exact .inr (.inr m)
      have r2' := (r2.sub hsub).keep k fun z m1 m2 => (List.nodup_append.mp n1).2.2 z (List.mem_append_right _ m1) z m2 rfl
      have w2 : VIA X.K H1 T o2 os1 σ1 ρ1 vs ds := ⟨by rw [← List.append_assoc]; exact r2', by rw [← List.append_assoc]; exact s1.rs, by rw [← List.append_assoc]; exact s1.nd, fun z m => s1.tr z (List.mem_append_left _ m)⟩
      refine ⟨T, o2, os1, ρ1, ds, ρ', w2, e2, fun σ2 H2 os2 s2 f2 x2 => q σ2 H2 os2 s2 ?_ (x1.trans x2)⟩
      have f1' : Fr H ((o1 ++ o2) ++ os) H1 (o2 ++ os1) := by
        refine ⟨fun z hz hn => f1.keep z hz fun m => hn ?_, fun z m => ?_⟩
        · simp only [List.mem_append] at m ⊢
          rcases m with m | m
          · exact .inl (.inl m)
          · exact .inr m
        · rcases List.mem_append.mp m with m | m
          · exact .inl (List.mem_append_left _ (List.mem_append_right _ m))
          · refine (f1.sub z m).imp (fun y => ?_) _root_.id
            simp only [List.mem_append] at y ⊢
            rcases y with y | y
            · exact .inl (.inl y)
            · exact .inr y
      exact f1'.trans f2
theorem g_tp {es : List Expr} {k n : Nat} {g : EvTs} (hc : X.calm = true) (h : PGs X es (tGs X.K fx g)) (hn : (assignEach es X.env).length = n) (hst : (assignEach es X.env).findIdx? (·.1) = none) (hlen : ∀ ds ρ r, g ds ρ = some r → ds.length = n) :
    PG X (.Tuple es k pos) (tG X.K fx fun d ρ => match d with
      | .tup ds => g ds ρ
      | _ => none) := by
  refine impG (pg_tup hc h hn hst) fun v σ H Q ⟨T, ov, os, ρ, d, ρ', w, e, q⟩ => ?_
  cases d with
  | tup ds =>
    have rv := w.rv
    have ho := rv.nown rfl
    subst ho
    obtain ⟨ad, vs, rfl, h1, h2⟩ := tup_inv rv
    exact ⟨ad, vs, rfl, SqT.of h1, by rw [h2.length]; exact hlen _ _ _ e, T, [], os, ρ, ds, ρ', ⟨h2, w.rs, w.nd, w.tr⟩, e, q⟩
  | _ => cases e
theorem g_st {j : Nat} {y : Str} {py : Pos} (hN : X.N[j]? = some y) (hv : Vis X.env.scope y) (hd : (y == ("__debug__" : Str)) = false) (hc : (y == ("__classdict__" : Str)) = false) (hi : PE X a (tI X.K ea))
    (ha : ∀ v, assign (.Subscript (.Name y py) a pos) X.env v = (do
      let ov ← holding [v] (eval (.Name y py) X.env)
      let iv ← holding [v, ov] (eval a X.env)
      standAt pos
      holding [v, ov, iv] (setItem ov iv v)
      release [v, ov, iv] [])) :
    PG X (.Subscript (.Name y py) a pos) (tG X.K fx fun d ρ => (getV ρ j).bind fun _ => (ea ρ).bind fun p => (ownL p.2 j).bind fun xs => match p.1 with
      | .int k => (ixN xs.length k).bind fun n => some (p.2.set j (some (.lst true (xs.set n d))))
      | _ => none) := by
  refine impG (pg_sub (pe_var hN hv hd hc) hi set_list ha) fun v σ H Q ⟨T, ov, os, ρ, d, ρ', w, e, q⟩ => ?_
  obtain ⟨d0, e0, e⟩ := Option.bind_eq_some_iff.mp e
  obtain ⟨p1, e1, e⟩ := Option.bind_eq_some_iff.mp e
  obtain ⟨xs, e2, e⟩ := Option.bind_eq_some_iff.mp e
  obtain ⟨v0, _, _, _, h1, _⟩ := w.rs.split (getV_some e0)
  refine ⟨v0, h1, T ++ ov, os, ρ, p1.1, p1.2, w.si, e1, fun v1 H1 ov1 os1 o1 => ?_⟩
  cases hp : p1.1 with
  | int k =>
    rw [hp] at e
    obtain ⟨n, e3, e⟩ := Option.bind_eq_some_iff.mp e
    cases e
    have rv := o1.rv
    rw [hp] at rv
    cases rv
    obtain ⟨s1, f1⟩ := o1.drop w.si
    have rv1 : Rep X.K H1 (T ++ (ov ++ os1)) v d ov := by
      have r0 : Rep X.K H ((T ++ ov) ++ os) v d ov := by rw [List.append_assoc]; exact w.rv
      have := r0.keep (f1.kp w.si) fun z m1 m2 => w.si.notin z (List.mem_append_right _ m1) m2
      rw [List.append_assoc] at this
      exact this
    have nd1 := s1.nd
    have rs1 := s1.rs
    rw [List.append_assoc] at nd1 rs1
    obtain ⟨ad, vs, ox, g1, g2, g3, g4, g5, g6, g7, g8⟩ := slot_new nd1 (fun z m => s1.tr z (List.mem_append_left _ m)) rs1 (ownL_some e2)
    rw [h1] at g1
    cases g1
    have hnl := ixN_lt e3
    obtain ⟨w0, pre, oi, post, k1, k2, k3, k4⟩ := g3.get (i := n) (d := xs[n]) (by simp [hnl])
    have n1 := List.nodup_append.mp (List.nodup_append.mp nd1).2.1
    have nv : ad ∉ ov := fun m => n1.2.2 ad m ad g5 rfl
    have sub : ∀ z ∈ pre ++ (ov ++ post), z ∈ ox ∨ z ∈ ov := fun z m => by
      rw [k2]
      simp only [List.mem_append] at m ⊢
      rcases m with m | m | m
      · exact .inl (.inl m)
      · exact .inr m
      · exact .inl (.inr (.inr m))
    have na : ad ∉ pre ++ (ov ++ post) := fun m => by
      rcases sub ad m with m | m
      · exact g7 m
      · exact nv m
    refine ⟨ad, vs, k, n, rfl, rfl, g2, by rw [g3.length]; exact e3, ?_⟩
    obtain ⟨os', s', hs'⟩ := g8 (upd H1 ad (.lst (vs.set n v))) (vs.set n v) (xs.set n d) (pre ++ (ov ++ post)) upd_same
      (fun z _ hz => upd_ne fun e => hz (by rw [e]; exact List.mem_cons_self))
      (fun O' h hin => by
        have kk : Kp H1 (T ++ (ov ++ os1)) [ad] (upd H1 ad (.lst (vs.set n v))) O' := ⟨fun z _ hz => upd_ne fun e => hz (by rw [e]; exact List.mem_singleton.mpr rfl), fun z hz => .inl (h z hz), fun z hz => by
          rw [List.mem_singleton.mp hz]
          exact ⟨by simp [g5], by rw [g2]; trivial⟩⟩
        refine k4 (upd H1 ad (.lst (vs.set n v))) O' v d ov (rv1.keep kk fun z m m2 => nv (by rw [← List.mem_singleton.mp m2]; exact m)) fun w e ow r m => r.keep kk fun z mz m2 => ?_
        have e' := List.mem_singleton.mp m2
        subst e'
        have := m z mz
        refine g7 ?_
        rw [k2]
        simp only [List.mem_append] at this ⊢
        rcases this with y | y
        · exact .inl y
        · exact .inr (.inr y))
      (by
        have g6' := g6
        rw [k2] at g6'
        have nox : ∀ z ∈ ov, z ∉ ox := fun z m1 m2 => n1.2.2 z m1 z (g4 z m2) rfl
        rw [List.nodup_append] at g6'
        obtain ⟨a1, a2, a3⟩ := g6'
        rw [List.nodup_append] at a2
        obtain ⟨b1, b2, b3⟩ := a2
        refine List.nodup_append.mpr ⟨a1, List.nodup_append.mpr ⟨n1.1, b2, fun z hz z' hz' ez => ?_⟩, fun z hz z' hz' ez => ?_⟩
        · subst ez
          exact nox z hz (by rw [k2]; simp [hz'])
        · subst ez
          rcases List.mem_append.mp hz' with hz' | hz'
          · exact nox z hz' (by rw [k2]; simp [hz])
          · exact a3 z hz z (List.mem_append_right _ hz') rfl) na sub
    refine q σ _ os' s' ?_ .refl
    refine ⟨fun z hz hn => ?_, fun z hz => ?_⟩
    · have hn1 : z ∉ os := fun m => hn (List.mem_append_right _ m)
      have hn2 : z ∉ ov := fun m => hn (List.mem_append_left _ m)
      have z1 := f1.keep z hz hn1
      rw [upd_ne, z1]
      intro e
      subst e
      rcases f1.sub z g5 with y | y
      · exact hn1 y
      · exact hz y
    · rcases hs' z hz with y | y
      · exact (f1.sub z y).imp (fun y => List.mem_append_right _ y) _root_.id
      · exact .inl (List.mem_append_left _ y)
  | _ => rw [hp] at e; cases e
end
end Rr

namespace Rr
open PySem PySem.Spec L2

/-! ### statements -/
def EndOk (K : PySem.W.Frag) (fx : Nat → Bool) (D : Ends) (T os : List Addr) (σ : L2.St) (H : Hp) (ρ' : Rho) : Fl → Prop
  | .nx => ∀ σ' H' os', SI K H' T os' σ' ρ' → Fr H os H' os' → Sx fx σ σ' → D.nx σ' H'
  | .bk => ∀ σ' H' os', SI K H' T os' σ' ρ' → Fr H os H' os' → Sx fx σ σ' → D.bk σ' H'
  | .ct => ∀ σ' H' os', SI K H' T os' σ' ρ' → Fr H os H' os' → Sx fx σ σ' → D.ct σ' H'
  | .rt d => ∀ σ' v H' ov os', Out K σ' T os H H' ρ' v d ov os' → Sx fx σ σ' → D.rt v H'
abbrev EvS := Rho → Option (Fl × Rho)
def tS (K : PySem.W.Frag) (fx : Nat → Bool) (ev : EvS) : TS := fun D σ H => ∃ T os ρ f ρ', SI K H T os σ ρ ∧ ev ρ = some (f, ρ') ∧ EndOk K fx D T os σ H ρ' f
theorem impS {X : Cx} {e : Stmt} {t t' : TS} (h : PS X e t) (i : ∀ D σ H, t' D σ H → t D σ H) : PS X e t' :=
  ⟨fun pins s σ H D I q => h.run pins s σ H D I (i D σ H q)⟩
theorem impSs {X : Cx} {e : List Stmt} {t t' : TS} (h : PSs X e t) (i : ∀ D σ H, t' D σ H → t D σ H) : PSs X e t' :=
  ⟨fun pins s σ H D I q => h.run pins s σ H D I (i D σ H q)⟩
section
variable {K : PySem.W.Frag} {fx : Nat → Bool} {D : Ends} {T os os1 : List Addr} {σ σ1 : L2.St} {H H1 : Hp} {ρ' : Rho} {f : Fl}
theorem EndOk.from (f1 : Fr H os H1 os1) (x1 : Sx fx σ σ1) (h : EndOk K fx D T os σ H ρ' f) : EndOk K fx D T os1 σ1 H1 ρ' f := by
  cases f with
  | nx => exact fun σ' H' os' s' f' x' => h σ' H' os' s' (f1.trans f') (x1.trans x')
  | bk => exact fun σ' H' os' s' f' x' => h σ' H' os' s' (f1.trans f') (x1.trans x')
  | ct => exact fun σ' H' os' s' f' x' => h σ' H' os' s' (f1.trans f') (x1.trans x')
  | rt d => exact fun σ' v H' ov os' o x' => h σ' v H' ov os' ⟨o.rv, o.rs, o.nd, f1.trans o.fr⟩ (x1.trans x')
end
section
variable {X : Cx} {a b c : Expr} {ea eb ec : Ev} {pos p : Pos} {C : Fn} {fx : Nat → Bool} {x : Str} {K : PySem.W.Frag}
theorem s_asg {tg : Expr} {f : EvT} (ha : PE X a (tI X.K ea)) (hg : PG X tg (tG X.K fx f)) (hs : swapsWithSole [tg] a pos.line X.env = pure false) (hw : swappedStores [tg] a X.env = pure none) (h1 : (assignEach [tg] X.env).map (·.2) = [assign tg X.env]) :
    PS X (.Assign [tg] a pos) (tS X.K fx fun ρ => (ea ρ).bind fun p => (f p.1 p.2).bind fun r => some (.nx, r)) := by
  refine impS (ps_asg ha hg hs hw h1) fun D σ H ⟨T, os, ρ, fl, ρ', s, e, q⟩ => ?_
  obtain ⟨p1, e1, e⟩ := Option.bind_eq_some_iff.mp e
  obtain ⟨r1, e2, e⟩ := Option.bind_eq_some_iff.mp e
  cases e
  refine ⟨T, os, ρ, p1.1, p1.2, s, e1, fun v1 H1 ov1 os1 o1 => ⟨T, ov1, os1, p1.2, p1.1, _, o1.vi s, e2, fun σ' H' os' s' f' x' => q σ' H' os' s' (o1.fr.trans f') x'⟩⟩
/-- a name set: what an expression's reading with the set behind it asks -/
theorem t_set {i : Nat} {te : TE} (hi : ∀ σ H Q, tI K ea σ H Q → te σ H Q) (h0 : fx i = false) {D : Ends} {σ : L2.St} {H : Hp} (h : tS K fx (fun ρ => (ea ρ).bind fun p => (denT C (.nm i) p.1 p.2).bind fun r => some (.nx, r)) D σ H) : tAsg te (gName i) D σ H := by
  obtain ⟨T, os, ρ, fl, ρ', s, e, q⟩ := h
  obtain ⟨p1, e1, e⟩ := Option.bind_eq_some_iff.mp e
  obtain ⟨r1, e2, e⟩ := Option.bind_eq_some_iff.mp e
  cases e
  refine hi _ _ _ ⟨T, os, ρ, p1.1, p1.2, s, e1, fun v1 H1 ov1 os1 o1 => ?_⟩
  rw [denT] at e2
  have hk : i < p1.2.length := by
    by_cases hk : i < p1.2.length
    · exact hk
    · rw [if_neg hk] at e2; cases e2
  rw [if_pos hk] at e2
  cases e2
  obtain ⟨os', s', h⟩ := (o1.vi s).put hk
  exact q _ H1 os' s' (o1.fr.trans (.refl h)) (.set h0)
theorem s_set {i : Nat} {pos' : Pos} (hN : X.N.Nodup) (hi : X.N[i]? = some x) (hx : Loc X.env.scope x) (ha : PE X a (tI X.K ea)) (hs : swapsWith a (some (.Name x pos')) pos.line X.env = pure false) (hf : X.fn x = true ∨ X.env.scope.names.lookup x = some .local) (h0 : fx i = false) :
    PS X (.Assign [.Name x pos'] a pos) (tS X.K fx fun ρ => (ea ρ).bind fun p => (denT C (.nm i) p.1 p.2).bind fun r => some (.nx, r)) :=
  impS (ps_set hN hi hx ha hs hf) fun D σ H h => t_set (fun _ _ _ z => z) h0 h
theorem s_exp (ha : PE X a (tI X.K ea)) (hs : swapsWith a none pos.line X.env = pure false) : PS X (.Expr a pos) (tS X.K fx fun ρ => (ea ρ).bind fun p => some (.nx, p.2)) := by
  refine impS (ps_expr ha hs) fun D σ H ⟨T, os, ρ, fl, ρ', s, e, q⟩ => ?_
  obtain ⟨p1, e1, e⟩ := Option.bind_eq_some_iff.mp e
  cases e
  exact ⟨T, os, ρ, p1.1, p1.2, s, e1, fun v1 H1 ov1 os1 o1 => q σ H1 os1 (o1.drop s).1 (o1.drop s).2 .refl⟩
theorem s_doc {z : Str} {j : Option Str} {p2 : Pos} : True := trivial
theorem s_if {u v : List Stmt} {eu ev : EvS} (hc : PT X c (tT X.K ec)) (ha : PSs X u (tS X.K fx eu)) (hb : PSs X v (tS X.K fx ev)) :
    PS X (.If c u v pos) (tS X.K fx fun ρ => (ec ρ).bind fun p => match p.1 with
      | .bl true => eu p.2
      | .bl false => ev p.2
      | _ => none) := by
  refine impS (ps_if hc ha hb) fun D σ H ⟨T, os, ρ, fl, ρ', s, e, q⟩ => ?_
  obtain ⟨⟨d1, r1⟩, e1, e⟩ := Option.bind_eq_some_iff.mp e
  cases d1 with
  | bl k =>
    refine ⟨T, os, ρ, k, r1, s, e1, fun H1 os1 s1 f1 => ?_⟩
    cases k with
    | true => exact iteT ⟨T, os1, r1, fl, ρ', s1, e, q.from f1 .refl⟩
    | false => exact iteF ⟨T, os1, r1, fl, ρ', s1, e, q.from f1 .refl⟩
  | _ => cases e
theorem s_ret (ha : PE X a (tI X.K ea)) : PS X (.Return (some a) pos) (tS X.K fx fun ρ => (ea ρ).bind fun p => some (.rt p.1, p.2)) := by
  refine impS (ps_ret ha) fun D σ H ⟨T, os, ρ, fl, ρ', s, e, q⟩ => ?_
  obtain ⟨p1, e1, e⟩ := Option.bind_eq_some_iff.mp e
  cases e
  exact ⟨T, os, ρ, p1.1, p1.2, s, e1, fun v1 H1 ov1 os1 o1 => q σ v1 H1 ov1 os1 o1 .refl⟩
theorem s_retn : PS X (.Return none pos) (tS X.K fx fun ρ => some (.rt .non, ρ)) := by
  refine impS ps_retN fun D σ H ⟨T, os, ρ, fl, ρ', s, e, q⟩ => ?_
  cases e
  exact q σ .non H [] os (fin s (.refl fun _ m => m) (.same .non)) .refl
/-- a slot's value moved out -/
theorem SI.move {K : PySem.W.Frag} {H : Hp} {T os : List Addr} {σ : L2.St} {ρ : Rho} {j : Nat} {d : D} (s : SI K H T os σ ρ) (h : getV ρ j = some d) : ∃ v ov os', σ[j]? = some (some v) ∧ Out K σ T os H H (ρ.set j none) v d ov os' := by
  have e := getV_some h
  have go : ∀ {σ : L2.St} {ρ : Rho} {os : List Addr} {j : Nat} {O : List Addr}, RepS K H O σ ρ os → ρ[j]? = some (some d) → ∃ v pre oi post, σ[j]? = some (some v) ∧ os = pre ++ (oi ++ post) ∧ Rep K H O v d oi ∧ RepS K H O σ (ρ.set j none) (pre ++ post) := by
    intro σ ρ os j O r
    induction r generalizing j with
    | nil => intro h; simp at h
    | @no x σ ρ os t ih =>
      intro h
      cases j with
      | zero => simp at h
      | succ j =>
        obtain ⟨v, pre, oi, post, h1, h2, h3, h4⟩ := ih (by simpa using h)
        exact ⟨v, pre, oi, post, by simpa using h1, h2, h3, .no h4⟩
    | @so w d0 σ ρ o os r t ih =>
      intro h
      cases j with
      | zero =>
        simp at h
        subst h
        exact ⟨w, [], o, os, rfl, rfl, r, .no t⟩
      | succ j =>
        obtain ⟨v, pre, oi, post, h1, h2, h3, h4⟩ := ih (by simpa using h)
        refine ⟨v, o ++ pre, oi, post, by simpa using h1, by rw [h2, List.append_assoc], h3, ?_⟩
        rw [List.append_assoc]
        exact RepS.so r h4
  obtain ⟨v, pre, oi, post, h1, h2, h3, h4⟩ := go s.rs e
  subst h2
  have hs : ∀ z ∈ T ++ (oi ++ (pre ++ post)), z ∈ T ++ (pre ++ (oi ++ post)) := fun z m => by
    simp only [List.mem_append] at m ⊢
    rcases m with m | m | m | m
    · exact .inl m
    · exact .inr (.inr (.inl m))
    · exact .inr (.inl m)
    · exact .inr (.inr (.inr m))
  refine ⟨v, oi, pre ++ post, h1, h3.sub hs, h4.sub hs, ?_, .refl fun z m => ?_⟩
  · refine (List.Perm.nodup_iff ?_).mp s.nd
    refine List.Perm.append_left T ?_
    rw [← List.append_assoc, ← List.append_assoc]
    exact List.Perm.append_right post List.perm_append_comm
  · have := hs z (List.mem_append_right _ m)
    simp only [List.mem_append] at m ⊢
    rcases m with m | m | m
    · exact .inr (.inl m)
    · exact .inl m
    · exact .inr (.inr m)
theorem s_retv {j : Nat} {py : Pos} (hN : X.N[j]? = some x) (hv : Vis X.env.scope x) (hd : (x == ("__debug__" : Str)) = false) (hc : (x == ("__classdict__" : Str)) = false) :
    PS X (.Return (some (.Name x py)) pos) (tS X.K fx fun ρ => (getV ρ j).bind fun d => some (.rt d, ρ.set j none)) := by
  refine impS (ps_ret (pe_var hN hv hd hc)) fun D σ H ⟨T, os, ρ, fl, ρ', s, e, q⟩ => ?_
  obtain ⟨d, e1, e⟩ := Option.bind_eq_some_iff.mp e
  cases e
  obtain ⟨v, ov, os', h1, o⟩ := s.move e1
  exact ⟨v, h1, q σ v H ov os' o .refl⟩
theorem s_brk : PS X (.Break pos) (tS X.K fx fun ρ => some (.bk, ρ)) := by
  refine impS ps_break fun D σ H ⟨T, os, ρ, fl, ρ', s, e, q⟩ => ?_
  cases e
  exact q σ H os s (.refl fun _ m => m) .refl
theorem s_cnt : PS X (.Continue pos) (tS X.K fx fun ρ => some (.ct, ρ)) := by
  refine impS ps_continue fun D σ H ⟨T, os, ρ, fl, ρ', s, e, q⟩ => ?_
  cases e
  exact q σ H os s (.refl fun _ m => m) .refl
theorem s_pas : PS X (.Pass pos) (tS X.K fx fun ρ => some (.nx, ρ)) := by
  refine impS ps_pass fun D σ H ⟨T, os, ρ, fl, ρ', s, e, q⟩ => ?_
  cases e
  exact q σ H os s (.refl fun _ m => m) .refl
theorem ss_nil : PSs X [] (tS X.K fx fun ρ => some (.nx, ρ)) := by
  refine impSs pss_nil fun D σ H ⟨T, os, ρ, fl, ρ', s, e, q⟩ => ?_
  cases e
  exact q σ H os s (.refl fun _ m => m) .refl
theorem ss_cons {st : Stmt} {rest : List Stmt} {es er : EvS} (h1 : PS X st (tS X.K fx es)) (h2 : PSs X rest (tS X.K fx er)) :
    PSs X (st :: rest) (tS X.K fx fun ρ => (es ρ).bind fun p => match p.1 with
      | .nx => er p.2
      | f => some (f, p.2)) := by
  refine impSs (pss_cons h1 h2) fun D σ H ⟨T, os, ρ, fl, ρ', s, e, q⟩ => ?_
  obtain ⟨⟨f1, r1⟩, e1, e⟩ := Option.bind_eq_some_iff.mp e
  refine ⟨T, os, ρ, f1, r1, s, e1, ?_⟩
  cases f1 with
  | nx => exact fun σ' H' os' s' f' x' => ⟨T, os', r1, fl, ρ', s', e, q.from f' x'⟩
  | bk => cases e; exact q
  | ct => cases e; exact q
  | rt d => cases e; exact q
/-! a, b = x, y -/
theorem s_par_ts {ts es : List Expr} {k1 k2 n : Nat} {p1 p2 : Pos} {ev : EvA} {g : EvTs} (hc : X.calm = true) (ha : PA X es (tA X.K ev)) (hg : PGs X ts (tGs X.K fx g)) (hn : (assignEach ts X.env).length = n) (hst : (assignEach ts X.env).findIdx? (·.1) = none) (hlen : ∀ ds ρ r, g ds ρ = some r → ds.length = n)
    (hs : swapsWithSole [.Tuple ts k1 p1] (.Tuple es k2 p2) pos.line X.env = pure false) (hw : swappedStores [.Tuple ts k1 p1] (.Tuple es k2 p2) X.env = pure none) (h1 : (assignEach [.Tuple ts k1 p1] X.env).map (·.2) = [assign (.Tuple ts k1 p1) X.env]) :
    PS X (.Assign [.Tuple ts k1 p1] (.Tuple es k2 p2) pos) (tS X.K fx fun ρ => (ev ρ).bind fun p => if p.1.length ≤ lim then (g p.1 p.2).bind fun r => some (.nx, r) else none) := by
  refine impS (ps_asg (pe_tup ha) (pg_tup hc hg hn hst) hs hw h1) fun D σ H ⟨T, os, ρ, fl, ρ', s, e, q⟩ => ?_
  obtain ⟨p1, e1, e⟩ := Option.bind_eq_some_iff.mp e
  split at e
  · rename_i hz
    obtain ⟨r1, e2, e⟩ := Option.bind_eq_some_iff.mp e
    cases e
    refine ⟨T, os, ρ, p1.1, p1.2, s, e1, fun vs H1 ov os1 o => ⟨lim_le (by rw [o.rv.length]; exact hz), fun p hp => ?_⟩⟩
    have w := o.via s
    have k : Kp H1 (T ++ (ov ++ os1)) [] (upd H1 p (.tup vs)) (T ++ (ov ++ os1)) := kp_new hp fun z m => .inl m
    refine ⟨p, vs, rfl, SqT.of upd_same, by rw [w.rv.length]; exact hlen _ _ _ e2, T, ov, os1, p1.2, p1.1, _, ⟨w.rv.keep k (fun _ _ m => nomatch m), w.rs.keep k (fun _ _ m => nomatch m), w.nd, fun z m => ?_⟩, e2, fun σ' H' os' s' f' x' => q σ' H' os' s' ?_ x'⟩
    · rw [upd_keep hp z (w.tr z m)]; exact w.tr z m
    · have f2 : Fr H1 (ov ++ os1) (upd H1 p (.tup vs)) (ov ++ os1) := ⟨fun z hz _ => upd_keep hp z hz, fun z m => .inl m⟩
      exact (o.fr.trans f2).trans f'
  · cases e
theorem VIA.split {K : PySem.W.Frag} {H : Hp} {T ov os : List Addr} {σ : L2.St} {ρ : Rho} {v : V} {vs : List V} {d : D} {ds : List D} (w : VIA K H T ov os σ ρ (v :: vs) (d :: ds)) {k : Nat} (hk : k < ρ.length) :
    ∃ o1 o2 os', VIA K H T o2 os' (σ.set k (some v)) (ρ.set k (some d)) vs ds ∧ ov = o1 ++ o2 ∧ ∀ a ∈ o2 ++ os', a ∈ ov ++ os := by
  have rv := w.rv
  generalize hO : T ++ (ov ++ os) = O at rv
  cases rv with
  | @cons _ _ _ _ o1 o2 r1 r2 =>
    have hsub : ∀ z, z ∈ (T ++ o2) ++ (o1 ++ os) → z ∈ O := fun z m => by
      subst hO
      simp only [List.mem_append] at m ⊢
      rcases m with (m | m) | m | m
      · exact .inl m
      · exact .inr (.inl (.inr m))
      · exact .inr (.inl (.inl m))
      · exact .inr (.inr m)
    have w1 : VI K H (T ++ o2) o1 os σ ρ v d := by
      refine ⟨r1.sub hsub, w.rs.sub fun z m => by rw [hO]; exact hsub z m, ?_, fun z m => ?_⟩
      · refine (List.Perm.nodup_iff ?_).mp w.nd
        rw [List.append_assoc, List.append_assoc]
        refine List.Perm.append_left T ?_
        rw [← List.append_assoc, ← List.append_assoc]
        exact List.Perm.append_right os List.perm_append_comm
      · rcases List.mem_append.mp m with m | m
        · exact w.tr z m
        · intro e
          have := r2.mut z m
          rw [e] at this; exact this
    obtain ⟨os', s', h'⟩ := w1.put hk
    have hs2 : ∀ z ∈ T ++ (o2 ++ os'), z ∈ O := fun z m => by
      refine hsub z ?_
      simp only [List.mem_append] at m ⊢
      rcases m with m | m | m
      · exact .inl (.inl m)
      · exact .inl (.inr m)
      · have := h' z m
        rw [List.mem_append] at this
        exact .inr this
    refine ⟨o1, o2, os', ⟨r2.sub hs2, by rw [← List.append_assoc]; exact s'.rs, by rw [← List.append_assoc]; exact s'.nd, w.tr⟩, rfl, fun z m => ?_⟩
    simp only [List.mem_append] at m ⊢
    rcases m with m | m
    · exact .inl (.inr m)
    · have := h' z m
      rw [List.mem_append] at this
      exact this.imp .inl _root_.id
abbrev nm2 (i j : Nat) : MTs := .cons (.nm i) (.cons (.nm j) .nil)
abbrev nm3 (i j k : Nat) : MTs := .cons (.nm i) (.cons (.nm j) (.cons (.nm k) .nil))
theorem nm_inv {i : Nat} {r : MTs} {ds : List D} {ρ ρ' : Rho} (e : denTs C (.cons (.nm i) r) ds ρ = some ρ') : ∃ d ds', ds = d :: ds' ∧ i < ρ.length ∧ denTs C r ds' (ρ.set i (some d)) = some ρ' := by
  cases ds with
  | nil => rw [denTs] at e <;> first | cases e | (intros; contradiction)
  | cons d ds =>
    rw [denTs] at e
    obtain ⟨ρ1, e1, e2⟩ := Option.bind_eq_some_iff.mp e
    rw [denT] at e1
    split at e1 <;> cases e1
    rename_i hk
    exact ⟨d, ds, rfl, hk, e2⟩
theorem nm_end {ds : List D} {ρ ρ' : Rho} (e : denTs C .nil ds ρ = some ρ') : ds = [] ∧ ρ' = ρ := by
  cases ds with
  | nil => rw [denTs] at e; cases e; exact ⟨rfl, rfl⟩
  | cons d ds => rw [denTs] at e <;> first | cases e | (intros; contradiction)
theorem cons_inv {K : PySem.W.Frag} {H : Hp} {O : List Addr} {vs : List V} {d : D} {ds : List D} {o : List Addr} (r : RepA K H O vs (d :: ds) o) : ∃ v vs', vs = v :: vs' := by
  cases r with
  | cons _ _ => exact ⟨_, _, rfl⟩
theorem nil_inv {K : PySem.W.Frag} {H : Hp} {O : List Addr} {vs : List V} {o : List Addr} (r : RepA K H O vs [] o) : vs = [] ∧ o = [] := by
  cases r; exact ⟨rfl, rfl⟩
theorem s_par2 {i j : Nat} {y : Str} {px py pt : Pos} {kt k2 : Nat} {pt2 : Pos} {ev : EvA} (hc : X.calm = true) (hN : X.N.Nodup) (hi : X.N[i]? = some x) (hj : X.N[j]? = some y) (hij : i ≠ j)
    (hx : X.env.scope.names.lookup x = some .local) (hy : X.env.scope.names.lookup y = some .local) (ha : PA X [a, b] (tA X.K ev)) (h0 : fx i = false ∧ fx j = false)
    (hw : swappedStores [.Tuple [.Name x px, .Name y py] kt pt] (.Tuple [a, b] k2 pt2) X.env = pure (some [x, y])) (hs : swapsWithSole [.Tuple [.Name x px, .Name y py] kt pt] (.Tuple [a, b] k2 pt2) pos.line X.env = pure false) :
    PS X (.Assign [.Tuple [.Name x px, .Name y py] kt pt] (.Tuple [a, b] k2 pt2) pos) (tS X.K fx fun ρ => (ev ρ).bind fun p => if p.1.length ≤ lim then (denTs C (nm2 i j) p.1 p.2).bind fun r => some (.nx, r) else none) := by
  refine impS (ps_par hc hN hi hj hij hx hy ha hw hs) fun D σ H ⟨T, os, ρ, fl, ρ', s, e, q⟩ => ?_
  obtain ⟨p1, e1, e⟩ := Option.bind_eq_some_iff.mp e
  split at e
  · obtain ⟨r1, e2, e⟩ := Option.bind_eq_some_iff.mp e
    cases e
    refine ⟨T, os, ρ, p1.1, p1.2, s, e1, fun vs H1 ov os1 o => ?_⟩
    have w := o.via s
    obtain ⟨d1, ds, h1, k1, e2⟩ := nm_inv e2
    obtain ⟨d2, ds, rfl, k2, e2⟩ := nm_inv e2
    obtain ⟨rfl, rfl⟩ := nm_end e2
    rw [h1] at w
    obtain ⟨v1, vs, rfl⟩ := cons_inv w.rv
    obtain ⟨o1, o2, os2, w2, rfl, g2⟩ := w.split k1
    obtain ⟨v2, vs, rfl⟩ := cons_inv w2.rv
    obtain ⟨o3, o4, os3, w3, rfl, g3⟩ := w2.split k2
    obtain ⟨rfl, rfl⟩ := nil_inv w3.rv
    exact ⟨v1, v2, rfl, q _ H1 os3 ⟨w3.rs, w3.nd, w3.tr⟩ (o.fr.trans (.refl fun z m => g2 z (g3 z m))) ((Sx.set h0.1).trans (.set h0.2))⟩
  · cases e
theorem s_par3 {i j l : Nat} {y z : Str} {px py pz pt : Pos} {kt k2 : Nat} {pt2 : Pos} {ev : EvA} (hc : X.calm = true) (hN : X.N.Nodup) (hi : X.N[i]? = some x) (hj : X.N[j]? = some y) (hl : X.N[l]? = some z) (hij : i ≠ j) (hil : i ≠ l) (hjl : j ≠ l)
    (hx : X.env.scope.names.lookup x = some .local) (hy : X.env.scope.names.lookup y = some .local) (hz : X.env.scope.names.lookup z = some .local) (ha : PA X [a, b, c] (tA X.K ev)) (h0 : fx i = false ∧ fx j = false ∧ fx l = false)
    (hw : swappedStores [.Tuple [.Name x px, .Name y py, .Name z pz] kt pt] (.Tuple [a, b, c] k2 pt2) X.env = pure (some [x, y, z])) (hs : swapsWithSole [.Tuple [.Name x px, .Name y py, .Name z pz] kt pt] (.Tuple [a, b, c] k2 pt2) pos.line X.env = pure false) :
    PS X (.Assign [.Tuple [.Name x px, .Name y py, .Name z pz] kt pt] (.Tuple [a, b, c] k2 pt2) pos) (tS X.K fx fun ρ => (ev ρ).bind fun p => if p.1.length ≤ lim then (denTs C (nm3 i j l) p.1 p.2).bind fun r => some (.nx, r) else none) := by
  refine impS (ps_par3 hc hN hi hj hl hij hil hjl hx hy hz ha hw hs) fun D σ H ⟨T, os, ρ, fl, ρ', s, e, q⟩ => ?_
  obtain ⟨p1, e1, e⟩ := Option.bind_eq_some_iff.mp e
  split at e
  · obtain ⟨r1, e2, e⟩ := Option.bind_eq_some_iff.mp e
    cases e
    refine ⟨T, os, ρ, p1.1, p1.2, s, e1, fun vs H1 ov os1 o => ?_⟩
    have w := o.via s
    obtain ⟨d1, ds, h1, k1, e2⟩ := nm_inv e2
    obtain ⟨d2, ds, rfl, k2, e2⟩ := nm_inv e2
    obtain ⟨d3, ds, rfl, k3, e2⟩ := nm_inv e2
    obtain ⟨rfl, rfl⟩ := nm_end e2
    rw [h1] at w
    obtain ⟨v1, vs, rfl⟩ := cons_inv w.rv
    obtain ⟨o1, o2, os2, w2, rfl, g2⟩ := w.split k1
    obtain ⟨v2, vs, rfl⟩ := cons_inv w2.rv
    obtain ⟨o3, o4, os3, w3, rfl, g3⟩ := w2.split k2
    obtain ⟨v3, vs, rfl⟩ := cons_inv w3.rv
    obtain ⟨o5, o6, os4, w4, rfl, g4⟩ := w3.split k3
    obtain ⟨rfl, rfl⟩ := nil_inv w4.rv
    exact ⟨v1, v2, v3, rfl, q _ H1 os4 ⟨w4.rs, w4.nd, w4.tr⟩ (o.fr.trans (.refl fun z m => g2 z (g3 z (g4 z m)))) (((Sx.set h0.1).trans (.set h0.2.1)).trans (.set h0.2.2))⟩
  · cases e
/-! loops -/
theorem s_for {tg iter : Expr} {body : List Stmt} {ei : EvI} {ft : EvT} {fb : EvS} (hp : PassesOwn (model X.prog X.w) X.A X.env X.xe) (hc : X.calm = true) (hi : PI X tg iter (tIt X.K ei)) (hg : PG X tg (tG X.K fx ft)) (hb : PSs X body (tS X.K fx fb)) (hs : ∀ x, foldedSetIterable iter X.env x = pure x) :
    PS X (.For tg iter body [] pos) (tS X.K fx fun ρ => (ei ρ).bind fun p => forD p.2 (fun d r => (ft d r).bind fun r1 => fb r1) p.1 p.2) := by
  refine impS (ps_for hp hc hi hg hb hs) fun D σ H ⟨T, os, ρ, fl, ρe, s, e, q⟩ => ?_
  obtain ⟨⟨ds, ρ0⟩, e1, e⟩ := Option.bind_eq_some_iff.mp e
  refine ⟨T, os, ρ, ds, ρ0, s, e1, fun J P H1 os1 s1 f1 wk hP => ?_⟩
  have hl0 : ρ0.length = σ.length := s1.len.symm
  refine ⟨fun i m σ2 H2 => m = ds.length - i ∧ i ≤ ds.length ∧ ∃ os2 ρ2, SI X.K H2 T os2 σ2 ρ2 ∧ Fr H os H2 os2 ∧ Sx fx σ σ2 ∧ P H2 (T ++ os2) ∧ forD ρ0 (fun d r => (ft d r).bind fun r1 => fb r1) (ds.drop i) ρ2 = some (fl, ρe), ⟨ds.length, by simp, Nat.zero_le _, os1, ρ0, s1, f1, .refl, hP, by simpa using e⟩, ?_⟩
  rintro i m σ2 H2 ⟨rfl, hi, os2, ρ2, s2, f2, x2, p2, e2⟩
  have hm : ρ0.length = ρ2.length := by rw [hl0, ← x2.len, s2.len]
  obtain ⟨os2', s2', h2'⟩ := s2.mask hm
  have p2' : P H2 (T ++ os2') := wk.keep (Kp.shrink (O := T ++ os2) fun z m => (List.mem_append.mp m).elim (fun y => List.mem_append_left _ y) fun y => List.mem_append_right _ (h2' z y)) p2
  have f2' : Fr H os H2 os2' := f2.less h2'
  by_cases hlt : i < ds.length
  · refine .inr ⟨wk.go i H2 _ hlt p2, ?_⟩
    have hd : ds[i]? = some ds[i] := by simp [hlt]
    rw [List.drop_eq_getElem_cons hlt, forD] at e2
    obtain ⟨⟨fl1, ρ3⟩, e3, e2⟩ := Option.bind_eq_some_iff.mp e2
    obtain ⟨ρ4, e4, e3⟩ := Option.bind_eq_some_iff.mp e3
    refine ⟨fun σ' H' => ∃ os' ρ', SI X.K H' T os' σ' ρ' ∧ Fr H os H' os' ∧ Sx fx σ σ' ∧ P H' (T ++ os') ∧ forD ρ0 (fun d r => (ft d r).bind fun r1 => fb r1) (ds.drop (i + 1)) ρ' = some (fl, ρe), fun σ' H' z => ⟨ds.length - (i + 1), by omega, rfl, hlt, z⟩, fun x H3 y => ?_⟩
    have pr := wk.yld i H2 _ x H3 _ hd p2' y
    have o := fin s2' (.refl fun _ m => m) pr
    have w := o.vi s2'
    refine ⟨T, [], os2', mask ρ0 ρ2, ds[i], ρ4, w, e4, fun σ4 H4 os4 s4 f4 x4 => ?_⟩
    have f4 : Fr H2 os2' H4 os4 := o.fr.trans f4
    refine ⟨T, os4, ρ4, fl1, ρ3, s4, e3, ?_⟩
    have keepP : ∀ σ5 H5 os5, SI X.K H5 T os5 σ5 ρ3 → Fr H4 os4 H5 os5 → P H5 (T ++ os5) := fun σ5 H5 os5 s5 f5 => wk.keep ((f4.trans f5).kp s2') p2'
    cases fl1 with
    | nx => exact fun σ5 H5 os5 s5 f5 x5 => ⟨os5, ρ3, s5, f2'.trans (f4.trans f5), x2.trans (x4.trans x5), keepP σ5 H5 os5 s5 f5, e2⟩
    | ct => exact fun σ5 H5 os5 s5 f5 x5 => ⟨os5, ρ3, s5, f2'.trans (f4.trans f5), x2.trans (x4.trans x5), keepP σ5 H5 os5 s5 f5, e2⟩
    | bk =>
      cases e2
      intro σ5 H5 os5 s5 f5 x5
      have xx := x2.trans (x4.trans x5)
      obtain ⟨os6, s6, h6⟩ := s5.mask (ρ0 := ρ0) (by rw [hl0, ← xx.len, s5.len])
      exact q σ5 H5 os6 s6 ((f2'.trans (f4.trans f5)).less h6) xx
    | rt d =>
      cases e2
      exact fun σ5 v5 H5 ov5 os5 o5 x5 => q σ5 v5 H5 ov5 os5 ⟨o5.rv, o5.rs, o5.nd, f2'.trans (f4.trans o5.fr)⟩ (x2.trans (x4.trans x5))
  · have hi' : i = ds.length := by omega
    subst hi'
    rw [List.drop_length, forD] at e2
    cases e2
    exact .inl ⟨wk.stop H2 _ p2, q σ2 H2 os2' s2' f2' x2⟩
theorem s_whl {c : Expr} {body : List Stmt} {ec : Ev} {fb : EvS} (hp : PassesOwn (model X.prog X.w) X.A X.env X.xe) (hc : PT X c (tT X.K ec)) (hb : PSs X body (tS X.K fx fb)) :
    PS X (.While c body [] pos) (tS X.K fx fun ρ => whlD ρ ec fb fuel ρ) := by
  refine impS (ps_while hp hc hb) fun D σ H ⟨T, os, ρ0, fl, ρe, s, e, q⟩ => ?_
  have hl0 : ρ0.length = σ.length := s.len.symm
  refine ⟨fun m σ2 H2 => ∃ os2 ρ2, SI X.K H2 T os2 σ2 ρ2 ∧ Fr H os H2 os2 ∧ Sx fx σ σ2 ∧ whlD ρ0 ec fb m ρ2 = some (fl, ρe), ⟨fuel, os, ρ0, s, .refl fun _ m => m, .refl, e⟩, ?_⟩
  rintro m σ2 H2 ⟨os2, ρ2, s2, f2, x2, e2⟩
  cases m with
  | zero => cases e2
  | succ m =>
    have hm : ρ0.length = ρ2.length := by rw [hl0, ← x2.len, s2.len]
    obtain ⟨os2', s2', h2'⟩ := s2.mask hm
    have f2' : Fr H os H2 os2' := f2.less h2'
    rw [whlD] at e2
    obtain ⟨⟨d1, ρ3⟩, e3, e2⟩ := Option.bind_eq_some_iff.mp e2
    cases d1 with
    | bl k =>
      refine ⟨T, os2', mask ρ0 ρ2, k, ρ3, s2', e3, fun H3 os3 s3 f3 => ?_⟩
      have f3 : Fr H os H3 os3 := f2'.trans f3
      cases k with
      | false =>
        cases e2
        obtain ⟨os6, s6, h6⟩ := s3.mask (ρ0 := ρ0) (by rw [hl0, ← x2.len, s3.len])
        exact iteF (q σ2 H3 os6 s6 (f3.less h6) x2)
      | true =>
        obtain ⟨⟨fl1, ρ4⟩, e4, e2⟩ := Option.bind_eq_some_iff.mp e2
        refine iteT ⟨fun σ' H' => ∃ os' ρ', SI X.K H' T os' σ' ρ' ∧ Fr H os H' os' ∧ Sx fx σ σ' ∧ whlD ρ0 ec fb m ρ' = some (fl, ρe), fun σ' H' z => ⟨m, by omega, z⟩, T, os3, ρ3, fl1, ρ4, s3, e4, ?_⟩
        cases fl1 with
        | nx => exact fun σ5 H5 os5 s5 f5 x5 => ⟨os5, ρ4, s5, f3.trans f5, x2.trans x5, e2⟩
        | ct => exact fun σ5 H5 os5 s5 f5 x5 => ⟨os5, ρ4, s5, f3.trans f5, x2.trans x5, e2⟩
        | bk =>
          cases e2
          intro σ5 H5 os5 s5 f5 x5
          have xx := x2.trans x5
          obtain ⟨os6, s6, h6⟩ := s5.mask (ρ0 := ρ0) (by rw [hl0, ← xx.len, s5.len])
          exact q σ5 H5 os6 s6 ((f3.trans f5).less h6) xx
        | rt d =>
          cases e2
          exact fun σ5 v5 H5 ov5 os5 o5 x5 => q σ5 v5 H5 ov5 os5 ⟨o5.rv, o5.rs, o5.nd, f3.trans o5.fr⟩ (x2.trans x5)
    | _ => cases e2
/-! comprehensions -/
abbrev evCo (own : List Nat) (ei : EvI) (ft : EvT) (ec ee : Ev) : Ev := fun ρ => (ei ρ).bind fun p => if p.1.length ≤ lim then (compD own ft ec ee p.1 p.2).bind fun r => some (.lst true r.1, r.2) else none
theorem wipe_of {own : List Nat} {σ0 σ σ2 : L2.St} (hσ : σ = L2.wipe σ0 own) (x : Sx (fun i => !own.contains i) σ σ2) : L2.wipe σ2 own = L2.wipe σ0 own := by
  subst hσ
  have g1 : ∀ (n : Nat) (σ'' : L2.St) (own : List Nat), n ∈ own → n < σ''.length → (L2.wipe σ'' own)[n]? = some none := by
    intro n σ'' own
    induction own with
    | nil => intro hn; cases hn
    | cons v vs ih =>
      intro hn hl
      unfold L2.wipe
      by_cases hv : v = n
      · subst hv
        rw [List.getElem?_set_self (by rw [wipe_length]; exact hl)]
      · rw [List.getElem?_set_ne hv]
        rcases List.mem_cons.mp hn with e | hn
        · exact absurd e.symm hv
        · exact ih hn hl
  have hlen : σ2.length = σ0.length := by rw [x.len, wipe_length]
  apply List.ext_getElem?
  intro n
  by_cases hn : n ∈ own
  · by_cases hl : n < σ0.length
    · rw [g1 n σ2 own hn (by omega), g1 n σ0 own hn hl]
    · rw [List.getElem?_eq_none (by rw [wipe_length]; omega), List.getElem?_eq_none (by rw [wipe_length]; omega)]
  · rw [wipe_ne hn, x.fix n (by simp [hn]), wipe_ne hn]
theorem t_comp {own : List Nat} {ei : EvI} {ft : EvT} {ec ee : Ev} {tt : TT} {σ : L2.St} {H : Hp} {Q : VK} (htt : ∀ σ H Q, tT K ec σ H Q → tt σ H Q)
    (h : tI K (evCo own ei ft ec ee) σ H Q) : tLc (tIt K ei) (tG K (fun i => !own.contains i) ft) tt (tI K ee) own σ H Q := by
  obtain ⟨T, os, ρ, d, ρ', s, e, q⟩ := h
  obtain ⟨⟨ds, ρ0⟩, e1, e⟩ := Option.bind_eq_some_iff.mp e
  split at e
  case isFalse => cases e
  rename_i hz
  have hz : ds.length ≤ lim := hz
  obtain ⟨⟨out, ρe⟩, e2, e⟩ := Option.bind_eq_some_iff.mp e
  have hd : d = .lst true out := by cases e; rfl
  have hr : ρ' = ρe := by cases e; rfl
  clear e
  subst hd hr
  have e2 : compD own ft ec ee ds ρ0 = some (out, ρ') := e2
  refine ⟨T, os, ρ, ds, ρ0, s, e1, fun J P H1 os1 s1 f1 wk hP Da hDa => ?_⟩
  -- the list so far, held aside with what it owns
  refine ⟨fun i m H2 => m = ds.length - i ∧ i ≤ ds.length ∧ ∃ acc done oa os2 ρ2 rest, H2 Da = some (.lst acc) ∧ RepA K H2 (T ++ ((Da :: oa) ++ os2)) acc done oa ∧ SI K H2 (T ++ (Da :: oa)) os2 (L2.wipe σ own) (wipeR ρ2 own) ∧ (Da ∉ oa) ∧ Fr H os H2 ((Da :: oa) ++ os2) ∧ done.length ≤ i ∧
    P H2 (T ++ ((Da :: oa) ++ os2)) ∧ compD own ft ec ee (ds.drop i) ρ2 = some (rest, ρ') ∧ done ++ rest = out, ?_, ?_⟩
  · obtain ⟨os2, s2, h2⟩ := s1.wipe own
    have k : Kp H1 (T ++ os1) [] (upd H1 Da (.lst [])) (T ++ ((Da :: []) ++ os2)) := kp_new hDa fun z m => by
      simp only [List.mem_append, List.mem_cons, List.not_mem_nil, or_false] at m ⊢
      rcases m with m | m | m
      · exact .inl (.inl m)
      · exact .inr m
      · exact .inl (.inr (h2 z m))
    have nD : Da ∉ T ++ os2 := fun m => by
      rcases List.mem_append.mp m with m | m
      · exact s1.tr Da m hDa
      · have := s1.rs.mut Da (h2 Da m)
        rw [hDa] at this; exact this
    refine ⟨ds.length, by simp, Nat.zero_le _, [], [], [], os2, ρ0, out, upd_same, .nil, ⟨?_, ?_, fun z m => ?_⟩, by simp, ⟨fun z hz' hn => ?_, fun z m => ?_⟩, Nat.zero_le _, ?_, by simpa using e2, rfl⟩
    · rw [List.append_assoc]
      refine s2.rs.keep (kp_new hDa fun z m => ?_) fun _ _ m => nomatch m
      simp only [List.mem_append, List.mem_cons, List.not_mem_nil, or_false] at m ⊢
      rcases m with m | m | m
      · exact .inl (.inl m)
      · exact .inr m
      · exact .inl (.inr m)
    · rw [List.append_assoc]
      have n2 := List.nodup_append.mp s2.nd
      refine List.nodup_append.mpr ⟨n2.1, List.nodup_cons.mpr ⟨fun m => nD (List.mem_append_right _ m), n2.2.1⟩, fun z hz1 z' hz2 ez => ?_⟩
      subst ez
      rcases List.mem_cons.mp hz2 with y | y
      · exact nD (y ▸ List.mem_append_left _ hz1)
      · exact n2.2.2 z hz1 z y rfl
    · rcases List.mem_append.mp m with m | m
      · rw [upd_keep hDa z (s1.tr z m)]; exact s1.tr z m
      · rw [List.mem_singleton.mp m, upd_same]; simp
    · have h1 : H1 z ≠ none := by rw [f1.keep z hz' hn]; exact hz'
      rw [upd_keep hDa z h1, f1.keep z hz' hn]
    · rcases List.mem_append.mp m with m | m
      · rw [List.mem_singleton.mp m]
        by_cases hh : H Da = none
        · exact .inr hh
        · by_cases ho : Da ∈ os
          · exact .inl ho
          · have := f1.keep Da hh ho
            rw [hDa] at this
            exact absurd this.symm hh
      · exact f1.sub z (h2 z m)
    · exact wk.keep k hP
  · rintro i m H2 ⟨rfl, hi, acc, done, oa, os2, ρ2, rest, hD, ra, s2, nD, f2, hdl, p2, e3, hout⟩
    by_cases hlt : i < ds.length
    · refine .inr ⟨wk.go i H2 _ hlt p2, ?_⟩
      have hd : ds[i]? = some ds[i] := by simp [hlt]
      rw [List.drop_eq_getElem_cons hlt, compD] at e3
      obtain ⟨ρ3, e4, e3⟩ := Option.bind_eq_some_iff.mp e3
      obtain ⟨⟨dc, ρ4⟩, e5, e3⟩ := Option.bind_eq_some_iff.mp e3
      refine ⟨fun H' => ∃ acc done oa os2 ρ2 rest, H' Da = some (.lst acc) ∧ RepA K H' (T ++ ((Da :: oa) ++ os2)) acc done oa ∧ SI K H' (T ++ (Da :: oa)) os2 (L2.wipe σ own) (wipeR ρ2 own) ∧ (Da ∉ oa) ∧ Fr H os H' ((Da :: oa) ++ os2) ∧ done.length ≤ i + 1 ∧
        P H' (T ++ ((Da :: oa) ++ os2)) ∧ compD own ft ec ee (ds.drop (i + 1)) ρ2 = some (rest, ρ') ∧ done ++ rest = out, fun H' z => ⟨ds.length - (i + 1), by omega, rfl, hlt, z⟩, fun x H3 y => ?_⟩
      have p2' : P H2 ((T ++ (Da :: oa)) ++ os2) := by rw [List.append_assoc]; exact p2
      have pr := wk.yld i H2 _ x H3 _ hd p2' y
      have o := fin s2 (.refl fun _ m => m) pr
      refine ⟨T ++ (Da :: oa), [], os2, wipeR ρ2 own, ds[i], ρ3, o.vi s2, e4, fun σ4 H4 os4 s4 f4 x4 => ?_⟩
      have hw4 := wipe_of rfl x4
      refine ⟨hw4, ?_⟩
      have f4 : Fr H2 os2 H4 os4 := o.fr.trans f4
      have back : ∀ {H5 : Hp} {T5 os5 : List Addr} {ρ5 : Rho}, SI K H5 T5 os5 σ4 ρ5 → ∃ os6, SI K H5 T5 os6 (L2.wipe σ own) (wipeR ρ5 own) ∧ ∀ a ∈ os6, a ∈ os5 := fun s5 => by
        obtain ⟨os6, s6, h6⟩ := s5.wipe own
        rw [hw4] at s6
        exact ⟨os6, s6, h6⟩
      -- the held list in a later state
      have hold : ∀ {H5 : Hp} {os5 : List Addr}, Fr H2 os2 H5 os5 → (∀ a ∈ os5, a ∉ T ++ (Da :: oa)) → H5 Da = some (.lst acc) ∧ RepA K H5 (T ++ ((Da :: oa) ++ os5)) acc done oa ∧ P H5 (T ++ ((Da :: oa) ++ os5)) ∧ Fr H os H5 ((Da :: oa) ++ os5) := fun {H5 os5} f5 hn5 => by
        have kp := f5.kp s2
        rw [List.append_assoc, List.append_assoc] at kp
        have nn : ∀ a ∈ T ++ (Da :: oa), a ∉ os2 := s2.notin
        refine ⟨?_, ra.keep kp fun a m => nn a (List.mem_append_right _ (List.mem_cons_of_mem _ m)), wk.keep kp p2, ?_⟩
        · rw [f5.keep Da (by rw [hD]; simp) (nn Da (List.mem_append_right _ List.mem_cons_self)), hD]
        · refine f2.trans ⟨fun z hz hn => f5.keep z hz fun m => hn (List.mem_append_right _ m), fun z m => ?_⟩
          rcases List.mem_append.mp m with m | m
          · exact .inl (List.mem_append_left _ m)
          · exact (f5.sub z m).imp (fun y => List.mem_append_right _ y) _root_.id
      cases dc with
      | bl k =>
        refine htt _ _ _ ⟨T ++ (Da :: oa), os4, ρ3, k, ρ4, s4, e5, fun H5 os5 s5 f5 => ?_⟩
        have f5 : Fr H2 os2 H5 os5 := f4.trans f5
        cases k with
        | false =>
          refine iteF ?_
          obtain ⟨os6, s6, h6⟩ := back s5
          obtain ⟨g1, g2, g3, g4⟩ := hold (f5.less h6) fun a m m2 => s6.notin a m2 m
          exact ⟨acc, done, oa, os6, ρ4, rest, g1, g2, s6, nD, g4, by omega, g3, e3, hout⟩
        | true =>
          obtain ⟨⟨d6, ρ6⟩, e6, e3⟩ := Option.bind_eq_some_iff.mp e3
          obtain ⟨⟨rest', ρ7⟩, e7, e3⟩ := Option.bind_eq_some_iff.mp e3
          cases e3
          refine iteT ⟨T ++ (Da :: oa), os5, ρ4, d6, ρ6, s5, e6, fun v6 H6 ov6 os6 o6 => ?_⟩
          have f6 : Fr H2 os2 H6 (ov6 ++ os6) := f5.trans o6.fr
          have n6 := o6.nd
          obtain ⟨g1, g2, g3, g4⟩ := hold f6 fun a m m2 => (List.nodup_append.mp n6).2.2 a m2 a m rfl
          have s6 : SI K H6 ((T ++ (Da :: oa)) ++ ov6) os6 σ4 ρ6 := o6.next s5
          obtain ⟨os7, s7, h7⟩ := back s6
          have al : acc.length < sizeLine := by
            rw [g2.length]
            exact lim_lt (by omega)
          refine ⟨acc, g1, al, acc ++ [v6], done ++ [d6], oa ++ ov6, os7, ρ6, rest', upd_same, ?_⟩
          have sub7 : ∀ z ∈ T ++ ((Da :: (oa ++ ov6)) ++ os7), z ∈ T ++ ((Da :: oa) ++ (ov6 ++ os6)) := fun z m => by
            simp only [List.mem_append, List.mem_cons] at m ⊢
            rcases m with m | (m | m | m) | m
            · exact .inl m
            · exact .inr (.inl (.inl m))
            · exact .inr (.inl (.inr m))
            · exact .inr (.inr (.inl m))
            · exact .inr (.inr (.inr (h7 z m)))
          have kD : Kp H6 (T ++ ((Da :: oa) ++ (ov6 ++ os6))) [Da] (upd H6 Da (.lst (acc ++ [v6]))) (T ++ ((Da :: (oa ++ ov6)) ++ os7)) := ⟨fun z _ hz => upd_ne fun e => hz (by rw [e]; exact List.mem_singleton.mpr rfl), fun z m => .inl (sub7 z m), fun z m => by
            rw [List.mem_singleton.mp m]
            exact ⟨by simp, by rw [g1]; trivial⟩⟩
          have nDv : Da ∉ ov6 ++ os6 := fun m => (List.nodup_append.mp n6).2.2 Da (List.mem_append_right _ List.mem_cons_self) Da m rfl
          have rv6 := o6.rv
          rw [List.append_assoc] at rv6
          refine ⟨(g2.keep kD fun z m m2 => nD (by rw [← List.mem_singleton.mp m2]; exact m)).snoc (rv6.keep kD fun z m m2 => nDv (by rw [← List.mem_singleton.mp m2]; exact List.mem_append_left _ m)), ?_, ?_, ?_, ?_, ?_, e7, ?_⟩
          · have eT : (T ++ (Da :: oa)) ++ ov6 = T ++ (Da :: (oa ++ ov6)) := by rw [List.append_assoc]; rfl
            have rs7 := s7.rs
            have nd7 := s7.nd
            have tr7 := s7.tr
            rw [eT] at rs7 nd7 tr7
            refine ⟨rs7.keep (cs := [Da]) ⟨fun z _ hz => upd_ne fun e => hz (by rw [e]; exact List.mem_singleton.mpr rfl), fun z m => .inl m, fun z m => by
              rw [List.mem_singleton.mp m]
              exact ⟨by simp, by rw [g1]; trivial⟩⟩ (fun z m m2 => nDv (by rw [← List.mem_singleton.mp m2]; exact List.mem_append_right _ (h7 z m))), nd7, fun z m => ?_⟩
            by_cases hzd : z = Da
            · rw [hzd, upd_same]; simp
            · rw [upd_ne hzd]; exact tr7 z m
          · simp only [List.mem_append, not_or]
            exact ⟨nD, fun m => nDv (List.mem_append_left _ m)⟩
          · refine g4.trans ⟨fun z hz hn => upd_ne fun e => hn (by rw [e]; exact List.mem_append_left _ List.mem_cons_self), fun z m => .inl ?_⟩
            simp only [List.mem_append, List.mem_cons] at m ⊢
            rcases m with (m | m | m) | m
            · exact .inl (.inl m)
            · exact .inl (.inr m)
            · exact .inr (.inl m)
            · exact .inr (.inr (h7 z m))
          · rw [List.length_append]
            show done.length + 1 ≤ i + 1
            omega
          · exact wk.keep kD g3
          · rw [List.append_assoc]; exact hout
      | _ => cases e3
    · have hi' : i = ds.length := by omega
      subst hi'
      rw [List.drop_length, compD] at e3
      cases e3
      refine .inl ⟨wk.stop H2 _ p2, q (.ref Da) H2 (Da :: oa) os2 ?_⟩
      rw [List.append_nil] at hout
      subst hout
      have s3 := s2.unwipe
      have rs3 := s3.rs
      have nd3 := s3.nd
      rw [List.append_assoc] at rs3 nd3
      exact ⟨.ow hD ra, rs3, nd3, f2⟩
end
end Rr

namespace Rr
open PySem PySem.Spec L2

/-! ### the text against the small language -/
structure Gs where
  N : List Str
  fns : List Str
  kwt : List (Nat × List Str × List Nat)
def blts : List Str := ["len", "abs", "int", "list", "tuple", "all", "repr", "isinstance", "range", "enumerate", "zip", "reversed", "bool", "str"]
structure XO (G : Gs) (C : Fn) (k : Nat) (sc : Scope) (fn : Str → Bool) (X : Cx) : Prop where
  N : X.N = G.N
  nd : G.N.Nodup
  scp : X.env.scope = sc
  kind : sc.kind = .function
  fn : ∀ x, fn x = true → X.fn x = true
  calm : X.calm = true
  room : Room k X.A
  g : X.A.guards = some []
  un : X.A.units + 100 < cLine
  bl : ∀ x ∈ blts, X.mg x = none
  cal : ∀ (f : Nat) x, G.fns[f]? = some x → Callee X k x (C f)
  ckw : ∀ e ∈ G.kwt, ∀ x, G.fns[e.1]? = some x → CalleeK X k x e.2.1 e.2.2 (C e.1)
def visC (sc : Scope) (x : Str) : Bool := match sc.names.lookup x with
  | some .local => true
  | some .cell => true
  | some .free => true
  | _ => false
def glC (sc : Scope) (x : Str) : Bool := match sc.names.lookup x with
  | some .globalImplicit => true
  | _ => false
def nmC (G : Gs) (sc : Scope) (i : Nat) (x : Str) : Bool := decide (G.N[i]? = some x) && visC sc x && !(x == ("__debug__" : Str)) && !(x == ("__classdict__" : Str))
/-- a name that may be set -/
def stC (G : Gs) (sc : Scope) (fn : Str → Bool) (i : Nat) (x : Str) : Bool := decide (G.N[i]? = some x) && (match sc.names.lookup x with
  | some .local => true
  | some .cell => fn x
  | _ => false)
def bC (sc : Scope) (y x : Str) : Bool := decide (x = y) && decide (y ∈ blts) && glC sc x
def notStar : Expr → Bool
  | .Starred _ _ => false
  | _ => true
def notSet : Expr → Bool
  | .Set _ _ _ => false
  | _ => true
def notSlice : Expr → Bool
  | .Slice _ _ _ _ => false
  | _ => true
def notComp : Expr → Bool
  | .ListComp _ _ _ _ => false
  | .SetComp _ _ _ _ => false
  | .DictComp _ _ _ _ _ => false
  | _ => true
def isTup : Expr → Bool
  | .Tuple _ _ _ => true
  | _ => false
/-- the forms whose test is the test of their value -/
def tst : Expr → Bool
  | .Name _ _ => true
  | .Constant _ _ _ => true
  | .Call _ _ _ _ => true
  | .Subscript _ _ _ => true
  | .BinOp _ _ _ _ => true
  | .BoolOp _ _ _ => true
  | .UnaryOp .Not _ _ => true
  | .Compare _ _ _ _ => true
  | .Tuple _ _ _ => true
  | .List _ _ => true
  | .ListComp _ _ _ _ => true
  | _ => false
def isBop : Expr → Bool
  | .BoolOp _ _ _ => true
  | _ => false
def BI.nm : BI → Str
  | .len => "len"
  | .abs => "abs"
  | .int => "int"
  | .list => "list"
  | .tuple => "tuple"
  | .all => "all"
  | .repr => "repr"
def TY.sn : TY → Str
  | .int => "int"
  | .bool => "bool"
  | .str => "str"
  | .tuple => "tuple"
  | .list => "list"
def ownP (N : List Str) (own : List Nat) : List (Str × Nat) := own.map fun i => ((N[i]?).getD "", i)
def bopQ : BO → Operator → Bool
  | o, p => decide (o.op = p)
def copQ : CO → CmpOp → Bool
  | o, p => decide (o.op = p)
mutual
def chE (G : Gs) : ME → Scope → (Str → Bool) → Expr → Bool
  | .var i, sc, _, e => match e with
    | .Name x _ => nmC G sc i x
    | _ => false
  | .con d, _, _, e => match d, e with
    | .int i, .Constant (.int j) _ _ => decide (i = j)
    | .bl i, .Constant (.bool j) _ _ => decide (i = j)
    | .str i, .Constant (.str j) _ _ => decide (i = j)
    | .non, .Constant .none _ _ => true
    | _, _ => false
  | .bin o a b, sc, fn, e => match e with
    | .BinOp x op y _ => bopQ o op && chE G a sc fn x && chE G b sc fn y
    | _ => false
  | .neg a, sc, fn, e => match e with
    | .UnaryOp .USub x _ => chE G a sc fn x
    | _ => false
  | .not a, sc, fn, e => match e with
    | .UnaryOp .Not x _ => chE G a sc fn x && tst x
    | _ => false
  | .and a b, sc, fn, e => match e with
    | .BoolOp .And (x :: y :: rest) pos => chE G a sc fn x && tst x && (match rest with
      | [] => chE G b sc fn y && tst y
      | z :: r => chE G b sc fn (.BoolOp .And (y :: z :: r) pos))
    | _ => false
  | .or a b, sc, fn, e => match e with
    | .BoolOp .Or (x :: y :: rest) pos => chE G a sc fn x && tst x && (match rest with
      | [] => chE G b sc fn y && tst y
      | z :: r => chE G b sc fn (.BoolOp .Or (y :: z :: r) pos))
    | _ => false
  | .ifx c a b, sc, fn, e => match e with
    | .IfExp z x y _ => chE G c sc fn z && tst z && chE G a sc fn x && chE G b sc fn y
    | _ => false
  | .cmp o a b, sc, fn, e => match e with
    | .Compare x [op] [y] _ => copQ o op && chE G a sc fn x && chE G b sc fn y && !(behindInMarks op y)
    | _ => false
  | .chain o o' a b c, sc, fn, e => match e with
    | .Compare x [op, op'] [y, z] _ => copQ o op && copQ o' op' && chE G a sc fn x && chE G b sc fn y && chE G c sc fn z && !(lastMarks [op, op'] [y, z])
    | _ => false
  | .tup as, sc, fn, e => match e with
    | .Tuple es _ _ => chA G as sc fn es
    | _ => false
  | .lst as, sc, fn, e => match e with
    | .List es _ => chA G as sc fn es
    | _ => false
  | .sub a i, sc, fn, e => match e with
    | .Subscript x y _ => chE G a sc fn x && chE G i sc fn y && notSlice y && !(isTup y)
    | _ => false
  | .sbv j i, sc, fn, e => match e with
    | .Subscript (.Name x _) y _ => nmC G sc j x && chE G i sc fn y && notSlice y && !(isTup y)
    | _ => false
  | .slice a lo hi, sc, fn, e => match e with
    | .Subscript x (.Slice l h none _) _ => chE G a sc fn x && chO G lo sc fn l && chO G hi sc fn h
    | _ => false
  | .blt b a, sc, fn, e => match e with
    | .Call (.Name x _) [y] [] _ => bC sc b.nm x && chE G a sc fn y && notStar y
    | _ => false
  | .lnv j, sc, _, e => match e with
    | .Call (.Name x _) [.Name y _] [] _ => bC sc "len" x && nmC G sc j y
    | _ => false
  | .isi a t, sc, fn, e => match e with
    | .Call (.Name x _) [y, .Name z _] [] _ => bC sc "isinstance" x && bC sc t.sn z && chE G a sc fn y && notStar y
    | _ => false
  | .call f as, sc, fn, e => match e with
    | .Call (.Name x _) (y :: ys) [] _ => decide (G.fns[f]? = some x) && glC sc x && !(x == ("__debug__" : Str)) && chA G as sc fn (y :: ys)
    | _ => false
  | .cio f j as, sc, fn, e => match e with
    | .Call (.Name x _) (.Name y _ :: ys) [] _ => decide (G.fns[f]? = some x) && glC sc x && !(x == ("__debug__" : Str)) && nmC G sc j y && chA G as sc fn ys
    | _ => false
  | .ckw f as perm, sc, fn, e => match e with
    | .Call (.Name x _) [] kws _ => decide (G.fns[f]? = some x) && glC sc x && !(x == ("__debug__" : Str)) && decide ((f, kws.filterMap (·.arg), perm) ∈ G.kwt) && kws.all (·.arg.isSome) && chK G as sc fn kws
    | _ => false
  | .comp own tg it c elt, sc, fn, e => match e with
    | .ListComp el [⟨t, ite, ifs, 0⟩] scope _ => blkC G.N sc scope (ownP G.N own) && chI G it sc fn t ite && notSet ite &&
        chT G tg (relS scope sc) (fun x => scope.names.lookup x == some .cell) (fun i => !own.contains i) t &&
        chC G c (relS scope sc) (fun x => scope.names.lookup x == some .cell) ifs && chE G elt (relS scope sc) (fun x => scope.names.lookup x == some .cell) el
    | _ => false
  | .app j a, sc, fn, e => match e with
    | .Call (.Attribute (.Name y _) m apos) [x] [] pos => decide (m = ("append" : Str)) && nmC G sc j y && chE G a sc fn x && notStar x && (apos.endLine == pos.line)
    | _ => false
  | .ext j a, sc, fn, e => match e with
    | .Call (.Attribute (.Name y _) m apos) [x] [] pos => decide (m = ("extend" : Str)) && nmC G sc j y && chE G a sc fn x && notStar x && (apos.endLine == pos.line)
    | _ => false
  | .pop j, sc, _, e => match e with
    | .Call (.Attribute (.Name y _) m apos) [] [] pos => decide (m = ("pop" : Str)) && nmC G sc j y && (apos.endLine == pos.line)
    | _ => false
  | .popp j i, sc, _, e => match e with
    | .Call (.Attribute (.Subscript (.Name y _) (.Constant (.int k) _ _) _) m apos) [] [] pos => decide (m = ("pop" : Str)) && decide (i = k) && nmC G sc j y && (apos.endLine == pos.line)
    | _ => false
  | .cmb o j i, sc, _, e => match e with
    | .Compare (.Subscript (.Name y _) (.Constant (.int k) _ _) _) [op] [.List [] _] _ => copQ o op && decide (i = k) && nmC G sc j y
    | _ => false
  | .rvl a, sc, fn, e => match e with
    | .Call (.Name x _) [.Call (.Name z _) [y] [] _] [] _ => bC sc "list" x && bC sc "reversed" z && chE G a sc fn y && notStar y
    | _ => false
  | .lrg t r, sc, fn, e => match e with
    | .Call (.Name x _) [y] [] _ => bC sc (if t then "tuple" else "list") x && chR G r sc fn y
    | _ => false
def chA (G : Gs) : MA → Scope → (Str → Bool) → List Expr → Bool
  | .nil, _, _, es => match es with
    | [] => true
    | _ => false
  | .cons a r, sc, fn, es => match es with
    | x :: xs => notStar x && chE G a sc fn x && chA G r sc fn xs
    | [] => false
def chK (G : Gs) : MA → Scope → (Str → Bool) → List Keyword → Bool
  | .nil, _, _, es => match es with
    | [] => true
    | _ => false
  | .cons a r, sc, fn, es => match es with
    | ⟨_, x, _⟩ :: xs => chE G a sc fn x && chK G r sc fn xs
    | [] => false
def chO (G : Gs) : MO → Scope → (Str → Bool) → Option Expr → Bool
  | .no, _, _, o => match o with
    | none => true
    | _ => false
  | .so a, sc, fn, o => match o with
    | some x => chE G a sc fn x
    | none => false
def chC (G : Gs) : MO → Scope → (Str → Bool) → List Expr → Bool
  | .no, _, _, o => match o with
    | [] => true
    | _ => false
  | .so a, sc, fn, o => match o with
    | [x] => chE G a sc fn x && tst x
    | _ => false
def chT (G : Gs) : MT → Scope → (Str → Bool) → (Nat → Bool) → Expr → Bool
  | .nm i, sc, fn, fx, e => match e with
    | .Name x _ => stC G sc fn i x && !(fx i)
    | _ => false
  | .tp ts, sc, fn, fx, e => match e with
    | .Tuple es _ _ => chTs G ts sc fn fx es
    | _ => false
  | .st j i, sc, fn, fx, e => match e with
    | .Subscript (.Name y _) x _ => nmC G sc j y && chE G i sc fn x && notSlice x
    | _ => false
def chTs (G : Gs) : MTs → Scope → (Str → Bool) → (Nat → Bool) → List Expr → Bool
  | .nil, _, _, _, es => match es with
    | [] => true
    | _ => false
  | .cons t r, sc, fn, fx, es => match es with
    | x :: xs => notStar x && chT G t sc fn fx x && chTs G r sc fn fx xs
    | [] => false
def chR (G : Gs) : MR → Scope → (Str → Bool) → Expr → Bool
  | .to a, sc, fn, e => match e with
    | .Call (.Name x _) [y] [] _ => bC sc "range" x && chE G a sc fn y && notStar y
    | _ => false
  | .ft a b, sc, fn, e => match e with
    | .Call (.Name x _) [y, z] [] _ => bC sc "range" x && chE G a sc fn y && notStar y && chE G b sc fn z && notStar z
    | _ => false
def chI (G : Gs) : MI → Scope → (Str → Bool) → Expr → Expr → Bool
  | .it a, sc, fn, _, e => chE G a sc fn e
  | .rng r, sc, fn, _, e => chR G r sc fn e
  | .enu a, sc, fn, t, e => isTup t && match e with
    | .Call (.Name x _) [y] [] _ => bC sc "enumerate" x && chE G a sc fn y && notStar y
    | _ => false
  | .zip a b, sc, fn, t, e => isTup t && match e with
    | .Call (.Name x _) [y, z] [] _ => bC sc "zip" x && chE G a sc fn y && notStar y && chE G b sc fn z && notStar z
    | _ => false
end
end Rr

namespace Rr
open PySem PySem.Spec L2

section
variable {G : Gs} {C : Fn} {k : Nat} {sc : Scope} {fn : Str → Bool} {X : Cx} {x y : Str} {i : Nat} {e a : Expr}
theorem vis_of (h : visC sc x = true) : Vis sc x := by
  unfold visC at h
  split at h
  · exact .inl (by assumption)
  · exact .inr (.inl (by assumption))
  · exact .inr (.inr (by assumption))
  · cases h
theorem XO.vis (o : XO G C k sc fn X) (h : visC sc x = true) : Vis X.env.scope x := by rw [o.scp]; exact vis_of h
theorem XO.gl (o : XO G C k sc fn X) (h : glC sc x = true) : Gl X x := by
  show X.env.scope.names.lookup x = some .globalImplicit
  rw [o.scp]
  unfold glC at h
  split at h
  · assumption
  · cases h
structure NmOk (X : Cx) (i : Nat) (x : Str) : Prop where
  n : X.N[i]? = some x
  v : Vis X.env.scope x
  d : (x == ("__debug__" : Str)) = false
  c : (x == ("__classdict__" : Str)) = false
theorem XO.nm (o : XO G C k sc fn X) (h : nmC G sc i x = true) : NmOk X i x := by
  unfold nmC at h
  simp only [Bool.and_eq_true, decide_eq_true_eq, Bool.not_eq_true'] at h
  obtain ⟨⟨⟨h1, h2⟩, h3⟩, h4⟩ := h
  exact ⟨by rw [o.N]; exact h1, o.vis h2, h3, h4⟩
structure StOk (X : Cx) (i : Nat) (x : Str) : Prop where
  n : X.N[i]? = some x
  l : Loc X.env.scope x
  f : X.fn x = true ∨ X.env.scope.names.lookup x = some .local
theorem XO.st (o : XO G C k sc fn X) (h : stC G sc fn i x = true) : StOk X i x := by
  unfold stC at h
  simp only [Bool.and_eq_true, decide_eq_true_eq] at h
  obtain ⟨h1, h2⟩ := h
  have hs := o.scp
  split at h2
  · rename_i q
    exact ⟨by rw [o.N]; exact h1, .inl (by rw [hs]; exact q), .inr (by rw [hs]; exact q)⟩
  · rename_i q
    exact ⟨by rw [o.N]; exact h1, .inr (by rw [hs]; exact q), .inl (o.fn _ h2)⟩
  · cases h2
structure BOk (X : Cx) (y x : Str) : Prop where
  e : x = y
  g : Gl X y
  m : X.mg y = none
theorem XO.b (o : XO G C k sc fn X) (h : bC sc y x = true) : BOk X y x := by
  unfold bC at h
  simp only [Bool.and_eq_true, decide_eq_true_eq] at h
  obtain ⟨⟨h1, h2⟩, h3⟩ := h
  subst h1
  exact ⟨rfl, o.gl h3, o.bl _ h2⟩
theorem star1 (env : Env) {es : List Expr} (h : notStar a = true) : starEach (a :: es) env = (false, eval a env) :: starEach es env := by
  cases a <;> first | rfl | cases h
theorem star0 (env : Env) (h : notStar a = true) : starEach [a] env = [(false, eval a env)] := star1 env h
theorem asg1 (env : Env) {es : List Expr} (h : notStar a = true) : assignEach (a :: es) env = (false, assign a env) :: assignEach es env := by
  cases a <;> first | rfl | cases h
theorem bop_of {o : BO} {p : Operator} (h : bopQ o p = true) : p = o.op := (of_decide_eq_true h).symm
theorem cop_of {o : CO} {p : CmpOp} (h : copQ o p = true) : p = o.op := (of_decide_eq_true h).symm
theorem noset (h : notSet e = true) (env : Env) (x : Value) : foldedSetIterable e env x = pure x := by
  cases e <;> first | rfl | cases h
structure Ok3 (X : Cx) (e : Expr) (ev : Ev) : Prop where
  pe : PE X e (tI X.K ev)
  pt : tst e = true → PT X e (tT X.K ev)
  pw : isBop e = true → PW X e (tT X.K ev)
theorem Ok3.of {ev : Ev} (h : PE X e (tI X.K ev)) (hb : isBop e = false) (he : ∀ whole, isTrue e X.env whole = (do let v ← whole; standAt e.pos; holding [v] (truthy v))) : Ok3 X e ev :=
  ⟨h, fun _ => pt_of h he, fun z => by rw [hb] at z; cases z⟩
theorem Ok3.of2 {ev : Ev} (h : PE X e (tI X.K ev)) (hb : isBop e = false) (ht : PT X e (tT X.K ev)) : Ok3 X e ev := ⟨h, fun _ => ht, fun z => by rw [hb] at z; cases z⟩
theorem Ok3.no {ev : Ev} (h : PE X e (tI X.K ev)) (hb : isBop e = false) (ht : tst e = false) : Ok3 X e ev := ⟨h, fun z => absurd (ht.symm.trans z) (by decide), fun z => absurd (hb.symm.trans z) (by decide)⟩
theorem plain_ix (h1 : notSlice a = true) (h2 : (!(isTup a)) = true) : PlainIx a := by
  cases a <;> first | (intro _ _; rfl) | cases h1 | cases h2
theorem XO.blk (o : XO G C k sc fn X) {s : Shared} {H : Hp} {scope : Scope} {cl : List (Str × Addr)} {A : Addr} {fp : List Addr} (hk : scope.kind = .function) :
    XO G C k (relS scope sc) (fun x => scope.names.lookup x == some .cell) (X.blk s H scope (compEnvC scope cl A X.env) fp) where
  N := o.N
  nd := o.nd
  scp := by
    show relS scope X.env.scope = _
    rw [o.scp]
  kind := hk
  fn := fun x h => h
  calm := o.calm
  room := o.room
  g := o.g
  un := o.un
  bl := o.bl
  cal := o.cal
  ckw := o.ckw
theorem ownP_2 (N : List Str) (own : List Nat) : (ownP N own).map (·.2) = own := by
  unfold ownP
  rw [List.map_map]
  exact List.map_id own
end
theorem denTs_len {C : Fn} : ∀ (ts : MTs) (ds : List D) (ρ r : Rho) (G : Gs) (sc : Scope) (fn : Str → Bool) (fx : Nat → Bool) (es : List Expr), chTs G ts sc fn fx es = true → denTs C ts ds ρ = some r → ds.length = es.length
  | .nil, ds, ρ, r, G, sc, fn, fx, es, h, e => by
    unfold chTs at h
    split at h
    · cases ds with
      | nil => rfl
      | cons _ _ => rw [denTs] at e <;> first | cases e | (intros; contradiction)
    · cases h
  | .cons t ts, ds, ρ, r, G, sc, fn, fx, es, h, e => by
    unfold chTs at h
    split at h
    · simp only [Bool.and_eq_true] at h
      cases ds with
      | nil => rw [denTs] at e <;> first | cases e | (intros; contradiction)
      | cons d ds =>
        rw [denTs] at e
        obtain ⟨ρ1, e1, e2⟩ := Option.bind_eq_some_iff.mp e
        rw [List.length_cons, List.length_cons, denTs_len ts ds ρ1 r _ _ _ _ _ h.2 e2]
    · cases h
theorem chTs_star {G : Gs} {sc : Scope} {fn : Str → Bool} {fx : Nat → Bool} : ∀ (ts : MTs) (es : List Expr) (env : Env), chTs G ts sc fn fx es = true → (assignEach es env).length = es.length ∧ (assignEach es env).findIdx? (·.1) = none
  | .nil, es, env, h => by
    unfold chTs at h
    split at h
    · exact ⟨rfl, rfl⟩
    · cases h
  | .cons t ts, es, env, h => by
    unfold chTs at h
    split at h
    · simp only [Bool.and_eq_true] at h
      obtain ⟨h1, h2⟩ := chTs_star ts _ env h.2
      rw [asg1 env h.1.1]
      refine ⟨by rw [List.length_cons, List.length_cons, h1], ?_⟩
      rw [List.findIdx?_cons, h2]
      rfl
    · cases h
theorem chA_star {G : Gs} {sc : Scope} {fn : Str → Bool} : ∀ (as : MA) (es : List Expr) (env : Env) (pos : Pos), chA G as sc fn es = true → (backTo pos (starEach es env)).any (·.1) = false
  | .nil, es, env, pos, h => by
    unfold chA at h
    split at h
    · rfl
    · cases h
  | .cons a as, es, env, pos, h => by
    unfold chA at h
    split at h
    · simp only [Bool.and_eq_true] at h
      rw [star1 env h.1.1]
      exact chA_star as _ env pos h.2
    · cases h
theorem kw_facts (env : Env) (pos : Pos) : ∀ kws : List Keyword, kws.all (·.arg.isSome) = true → (backToKw pos (keywordEach kws env)).all (·.1.isSome) = true ∧ (backToKw pos (keywordEach kws env)).filterMap (·.1) = kws.filterMap (·.arg) ∧
    (backToKw pos (keywordEach kws env)).any (·.1.isNone) = false ∧ kws.length = (kws.filterMap (·.arg)).length
  | [], _ => ⟨rfl, rfl, rfl, rfl⟩
  | ⟨none, _, _⟩ :: _, h => by simp at h
  | ⟨some n, v, p⟩ :: kws, h => by
    obtain ⟨h1, h2, h3, h4⟩ := kw_facts env pos kws (by simpa using h)
    refine ⟨?_, ?_, ?_, ?_⟩
    · show ((some n).isSome && (backToKw pos (keywordEach kws env)).all (·.1.isSome)) = true
      rw [h1]; rfl
    · show n :: (backToKw pos (keywordEach kws env)).filterMap (·.1) = n :: kws.filterMap (·.arg)
      rw [h2]
    · show ((some n).isNone || (backToKw pos (keywordEach kws env)).any (·.1.isNone)) = false
      rw [h3]; rfl
    · show kws.length + 1 = (kws.filterMap (·.arg)).length + 1
      rw [h4]
theorem denA_len {C : Fn} {G : Gs} {sc : Scope} {fn : Str → Bool} : ∀ (as : MA) (kws : List Keyword) (ρ : Rho) (p : List D × Rho), chK G as sc fn kws = true → denA C as ρ = some p → p.1.length = kws.length
  | .nil, kws, ρ, p, h, e => by
    unfold chK at h
    split at h
    · rw [denA] at e; cases e; rfl
    · cases h
  | .cons a as, kws, ρ, p, h, e => by
    unfold chK at h
    split at h
    · simp only [Bool.and_eq_true] at h
      rw [denA] at e
      obtain ⟨q1, e1, e⟩ := Option.bind_eq_some_iff.mp e
      obtain ⟨q2, e2, e⟩ := Option.bind_eq_some_iff.mp e
      cases e
      rw [List.length_cons, List.length_cons, denA_len as _ _ _ h.2 e2]
    · cases h
def PSub (X : Cx) (e : Expr) (ev : Rho → Option (Int × Int × Rho)) : Prop := notStar e = true ∧ ∃ te, PRg X e te ∧ (∀ σ H Q, tR X.K ev σ H Q → te σ H Q) ∧ (∀ ρ lo hi ρ', ev ρ = some (lo, hi, ρ') → small62 lo = true ∧ small62 hi = true) ∧
  ∀ tg, PI X tg e (tIt X.K fun ρ => (ev ρ).bind fun r => some (intsD r.1 (r.2.1 - r.1).toNat, r.2.2))
end Rr

namespace Rr
open PySem PySem.Spec L2

section
variable {G : Gs} {C : Fn} {k : Nat} {sc : Scope} {fn : Str → Bool} {X : Cx} {x y : Str} {i : Nat} {e a : Expr} {es : List Expr}
theorem chA_tail {as : MA} {y : Expr} {ys : List Expr} (env : Env) (pos : Pos) (h : chA G as sc fn (y :: ys) = true) : notStar y = true ∧ (backTo pos (starEach ys env)).any (·.1) = false := by
  have h2 := chA_star as _ env pos h
  cases as with
  | nil => unfold chA at h; cases h
  | cons a as =>
    unfold chA at h
    simp only [Bool.and_eq_true] at h
    refine ⟨h.1.1, chA_star as _ env pos h.2⟩
theorem XO.hu (o : XO G C k sc fn X) : X.A.units + 65 < cLine := by have := o.un; omega
theorem asg_sub {py pos : Pos} (h : notSlice a = true) (env : Env) : ∀ v, assign (.Subscript (.Name y py) a pos) env v = (do
      let ov ← holding [v] (eval (.Name y py) env)
      let iv ← holding [v, ov] (eval a env)
      standAt pos
      holding [v, ov, iv] (setItem ov iv v)
      release [v, ov, iv] []) := by
  intro v
  cases a <;> first | rfl | cases h
theorem dts_cons (t : MT) (r : MTs) : denTs C (.cons t r) = fun ds ρ => match ds with
      | d :: ds => (denT C t d ρ).bind fun ρ1 => denTs C r ds ρ1
      | [] => none := by
  funext ds ρ
  cases ds <;> simp only [denTs]
theorem c_blt {b : BI} {p pos : Pos} (o : XO G C k sc fn X) (hb : BOk X b.nm x) (ha : PE X a (tI X.K (den C m))) (hs : notStar a = true) : PE X (.Call (.Name x p) [a] [] pos) (tI X.K (den C (.blt b m))) := by
  obtain ⟨e, hg, hm⟩ := hb
  subst e
  have st := star0 X.env hs
  cases b with
  | len => exact r_bltB b_len hg hm PySem.boot_len ha (by decide) (by decide) st
  | abs => exact r_bltB b_abs hg hm PyProof.Rows.boot_abs ha (by decide) (by decide) st
  | int => exact r_bltT b_int hg hm PyProof.Rows.boot_int ha (by decide) (by decide) st
  | list => exact r_bltT b_list hg hm PyProof.Rows.boot_list ha (by decide) (by decide) st
  | tuple => exact r_bltT b_tuple hg hm PyProof.Rows.boot_tuple ha (by decide) (by decide) st
  | all => exact r_bltB (b_all o.calm) hg hm PyProof.Rows.boot_all ha (by decide) (by decide) st
  | repr => exact r_bltB (b_repr o.g o.un) hg hm PyProof.Rows.boot_repr ha (by decide) (by decide) st
theorem c_isi {t : TY} {z : Str} {p pos pz : Pos} (hb : BOk X "isinstance" x) (hz : BOk X t.sn z) (ha : PE X a (tI X.K (den C m))) (hs : notStar a = true) : PE X (.Call (.Name x p) [a, .Name z pz] [] pos) (tI X.K (den C (.isi m t))) := by
  obtain ⟨e, hg, hm⟩ := hb
  subst e
  obtain ⟨e, hg2, hm2⟩ := hz
  subst e
  refine r_isi hg hm hg2 hm2 ?_ ?_ ?_ ha (star1 X.env hs)
  · cases t with
    | int => exact PyProof.Rows.boot_int
    | bool => exact PyProof.Rows.boot_bool
    | str => exact PyProof.Rows.boot_str
    | tuple => exact PyProof.Rows.boot_tuple
    | list => exact PyProof.Rows.boot_list
  · cases t <;> decide
  · cases t <;> decide
end

mutual
theorem okE (G : Gs) (C : Fn) (k : Nat) : ∀ (m : ME) (sc : Scope) (fn : Str → Bool) (X : Cx) (e : Expr), XO G C k sc fn X → chE G m sc fn e = true → Ok3 X e (den C m)
  | .var i, sc, fn, X, e, q, h => by
    unfold chE at h
    split at h
    · have n := q.nm h
      exact .of (r_var n.n n.v n.d n.c) rfl fun _ => rfl
    · cases h
  | .con d, sc, fn, X, e, q, h => by
    unfold chE at h
    split at h
    · cases of_decide_eq_true h
      exact .of r_con_int rfl fun _ => rfl
    · cases of_decide_eq_true h
      exact .of r_con_bl rfl fun _ => rfl
    · cases of_decide_eq_true h
      exact .of r_con_str rfl fun _ => rfl
    · exact .of r_con_non rfl fun _ => rfl
    · cases h
  | .bin o a b, sc, fn, X, e, q, h => by
    unfold chE at h
    split at h
    · simp only [Bool.and_eq_true] at h
      obtain ⟨⟨h1, h2⟩, h3⟩ := h
      cases bop_of h1
      exact .of (r_bin (boR o) (okE G C k a _ _ _ _ q h2).pe (okE G C k b _ _ _ _ q h3).pe) rfl fun _ => rfl
    · cases h
  | .neg a, sc, fn, X, e, q, h => by
    unfold chE at h
    split at h
    · exact .no (r_neg (okE G C k a _ _ _ _ q h).pe) rfl rfl
    · cases h
  | .not a, sc, fn, X, e, q, h => by
    unfold chE at h
    split at h
    · simp only [Bool.and_eq_true] at h
      have ha := okE G C k a _ _ _ _ q h.1
      exact .of2 (r_not ha.pe) rfl (r_notT (ha.pt h.2))
    · cases h
  | .and a b, sc, fn, X, e, q, h => by
    unfold chE at h
    split at h
    · simp only [Bool.and_eq_true] at h
      obtain ⟨⟨h1, h2⟩, h3⟩ := h
      have ha := okE G C k a _ _ _ _ q h1
      split at h3
      · simp only [Bool.and_eq_true] at h3
        have hb := okE G C k b _ _ _ _ q h3.1
        exact ⟨r_and ha.pe (pe_one hb.pe), fun _ => (r_andW (ha.pt h2) (pw_and1 (hb.pt h3.2))).pt, fun _ => r_andW (ha.pt h2) (pw_and1 (hb.pt h3.2))⟩
      · have hb := okE G C k b _ _ _ _ q h3
        exact ⟨r_and ha.pe hb.pe, fun _ => (r_andW (ha.pt h2) (hb.pw rfl)).pt, fun _ => r_andW (ha.pt h2) (hb.pw rfl)⟩
    · cases h
  | .or a b, sc, fn, X, e, q, h => by
    unfold chE at h
    split at h
    · simp only [Bool.and_eq_true] at h
      obtain ⟨⟨h1, h2⟩, h3⟩ := h
      have ha := okE G C k a _ _ _ _ q h1
      split at h3
      · simp only [Bool.and_eq_true] at h3
        have hb := okE G C k b _ _ _ _ q h3.1
        exact ⟨r_or ha.pe (pe_one hb.pe), fun _ => (r_orW (ha.pt h2) (pw_or1 (hb.pt h3.2))).pt, fun _ => r_orW (ha.pt h2) (pw_or1 (hb.pt h3.2))⟩
      · have hb := okE G C k b _ _ _ _ q h3
        exact ⟨r_or ha.pe hb.pe, fun _ => (r_orW (ha.pt h2) (hb.pw rfl)).pt, fun _ => r_orW (ha.pt h2) (hb.pw rfl)⟩
    · cases h
  | .ifx c a b, sc, fn, X, e, q, h => by
    unfold chE at h
    split at h
    · simp only [Bool.and_eq_true] at h
      obtain ⟨⟨⟨h1, h2⟩, h3⟩, h4⟩ := h
      exact .no (r_ifx ((okE G C k c _ _ _ _ q h1).pt h2) (okE G C k a _ _ _ _ q h3).pe (okE G C k b _ _ _ _ q h4).pe) rfl rfl
    · cases h
  | .cmp o a b, sc, fn, X, e, q, h => by
    unfold chE at h
    split at h
    · simp only [Bool.and_eq_true, Bool.not_eq_true'] at h
      obtain ⟨⟨⟨h1, h2⟩, h3⟩, h4⟩ := h
      cases cop_of h1
      have ha := (okE G C k a _ _ _ _ q h2).pe
      have hb := (okE G C k b _ _ _ _ q h3).pe
      exact .of2 (r_cmp (coR q.hu o) ha hb h4) rfl (r_cmpT (coR q.hu o) ha hb h4)
    · cases h
  | .chain o o' a b c, sc, fn, X, e, q, h => by
    unfold chE at h
    split at h
    · simp only [Bool.and_eq_true, Bool.not_eq_true'] at h
      obtain ⟨⟨⟨⟨⟨h1, h1'⟩, h2⟩, h3⟩, h4⟩, h5⟩ := h
      cases cop_of h1
      cases cop_of h1'
      have ha := (okE G C k a _ _ _ _ q h2).pe
      have hb := (okE G C k b _ _ _ _ q h3).pe
      have hc := (okE G C k c _ _ _ _ q h4).pe
      exact .of2 (r_chain (coR q.hu o) (coR q.hu o') ha hb hc h5) rfl (r_chainT (coR q.hu o) (coR q.hu o') ha hb hc h5)
    · cases h
  | .tup as, sc, fn, X, e, q, h => by
    unfold chE at h
    split at h
    · exact .of (r_tup (okA G C k as _ _ _ _ q h)) rfl fun _ => rfl
    · cases h
  | .lst as, sc, fn, X, e, q, h => by
    unfold chE at h
    split at h
    · exact .of (r_lst (okA G C k as _ _ _ _ q h)) rfl fun _ => rfl
    · cases h
  | .sub a i, sc, fn, X, e, q, h => by
    unfold chE at h
    split at h
    · simp only [Bool.and_eq_true] at h
      obtain ⟨⟨⟨h1, h2⟩, h3⟩, h4⟩ := h
      exact .of (r_sub (okE G C k a _ _ _ _ q h1).pe (okE G C k i _ _ _ _ q h2).pe (plain_ix h3 h4)) rfl fun _ => rfl
    · cases h
  | .sbv j i, sc, fn, X, e, q, h => by
    unfold chE at h
    split at h
    · simp only [Bool.and_eq_true] at h
      obtain ⟨⟨⟨h1, h2⟩, h3⟩, h4⟩ := h
      have n := q.nm h1
      exact .of (r_sbv n.n n.v n.d n.c (okE G C k i _ _ _ _ q h2).pe (plain_ix h3 h4)) rfl fun _ => rfl
    · cases h
  | .slice a lo hi, sc, fn, X, e, q, h => by
    unfold chE at h
    split at h
    · simp only [Bool.and_eq_true] at h
      obtain ⟨⟨h1, h2⟩, h3⟩ := h
      exact .of (r_slice (okE G C k a _ _ _ _ q h1).pe (okO G C k lo _ _ _ _ q h2) (okO G C k hi _ _ _ _ q h3)) rfl fun _ => rfl
    · cases h
  | .blt b a, sc, fn, X, e, q, h => by
    unfold chE at h
    split at h
    · simp only [Bool.and_eq_true] at h
      obtain ⟨⟨h1, h2⟩, h3⟩ := h
      exact .of (c_blt q (q.b h1) (okE G C k a _ _ _ _ q h2).pe h3) rfl fun _ => rfl
    · cases h
  | .lnv j, sc, fn, X, e, q, h => by
    unfold chE at h
    split at h
    · simp only [Bool.and_eq_true] at h
      obtain ⟨e, hg, hm⟩ := q.b h.1
      subst e
      have n := q.nm h.2
      exact .of (r_lnv hg hm n.n n.v n.d n.c) rfl fun _ => rfl
    · cases h
  | .isi a t, sc, fn, X, e, q, h => by
    unfold chE at h
    split at h
    · simp only [Bool.and_eq_true] at h
      obtain ⟨⟨⟨h1, h2⟩, h3⟩, h4⟩ := h
      exact .of (c_isi (q.b h1) (q.b h2) (okE G C k a _ _ _ _ q h3).pe h4) rfl fun _ => rfl
    · cases h
  | .call f as, sc, fn, X, e, q, h => by
    unfold chE at h
    split at h
    · simp only [Bool.and_eq_true, decide_eq_true_eq, Bool.not_eq_true'] at h
      obtain ⟨⟨⟨h1, h2⟩, h3⟩, h4⟩ := h
      have t := chA_tail X.env (by assumption) h4
      exact .of (r_call (q.cal f _ h1) q.room q.g (q.gl h2) (okA G C k as _ _ _ _ q h4) h3 (star1 X.env t.1) t.2) rfl fun _ => rfl
    · cases h
  | .cio f j as, sc, fn, X, e, q, h => by
    unfold chE at h
    split at h
    · simp only [Bool.and_eq_true, decide_eq_true_eq, Bool.not_eq_true'] at h
      obtain ⟨⟨⟨⟨h1, h2⟩, h3⟩, h4⟩, h5⟩ := h
      have n := q.nm h4
      exact .of (r_cio (q.cal f _ h1) q.room q.g (q.gl h2) n.n n.v n.d n.c (okA G C k as _ _ _ _ q h5) h3 rfl (chA_star as _ X.env _ h5)) rfl fun _ => rfl
    · cases h
  | .ckw f as perm, sc, fn, X, e, q, h => by
    unfold chE at h
    split at h
    · simp only [Bool.and_eq_true, decide_eq_true_eq, Bool.not_eq_true'] at h
      obtain ⟨⟨⟨⟨⟨h1, h2⟩, h3⟩, h4⟩, h5⟩, h6⟩ := h
      rename_i kws pos
      obtain ⟨f1, f2, f3, f4⟩ := kw_facts X.env pos kws h5
      exact .of (r_ckw (q.ckw _ h4 _ h1) q.room q.g (q.gl h2) (okK G C k as _ _ _ _ q h6) h3 f4 (fun ρ p e => (denA_len as kws ρ p h6 e).trans f4) f1 f2 (by rw [f3]; rfl)) rfl fun _ => rfl
    · cases h
  | .comp own tg it c elt, sc, fn, X, e, q, h => by
    unfold chE at h
    split at h
    · simp only [Bool.and_eq_true] at h
      obtain ⟨⟨⟨⟨⟨h1, h2⟩, h3⟩, h4⟩, h5⟩, h6⟩ := h
      rename_i el t ite ifs scope pos
      have ok := blkOk_by h1
      have ok' : BlkOk X.N X.env.scope scope (ownP G.N own) := by rw [q.N, q.scp]; exact ok
      have hb : ∀ (s : Shared) (H : Hp) (A : Addr) (cl : List (Str × Addr)) (fp : List Addr), XO G C k (relS scope sc) (fun x => scope.names.lookup x == some .cell) (X.blk s H scope (compEnvC scope cl A X.env) fp) := fun s H A cl fp => q.blk ok.kind
      have p := pe_lc (pos := pos) (elt := el) (tg := t) (ifs := ifs) (te := tI X.K (den C elt)) (tt := tT X.K (denC C c)) (g := tG X.K (fun i => !own.contains i) (denT C tg)) q.calm (by rw [q.N]; exact q.nd) (okI G C k it _ _ _ _ _ q h2) ok'
        (fun s H A cl fp => okT G C k tg _ _ _ _ _ (hb s H A cl fp) h4) (fun s H A cl fp => okC G C k c _ _ _ _ (hb s H A cl fp) h5) (fun s H A cl fp => (okE G C k elt _ _ _ _ (hb s H A cl fp) h6).pe) (noset h3 _)
      rw [ownP_2] at p
      exact .of (imp p fun σ H Q z => t_comp (fun _ _ _ w => w) z) rfl fun _ => rfl
    · cases h
  | .app j a, sc, fn, X, e, q, h => by
    unfold chE at h
    split at h
    · simp only [Bool.and_eq_true, decide_eq_true_eq] at h
      obtain ⟨⟨⟨⟨h1, h2⟩, h3⟩, h4⟩, h5⟩ := h
      subst h1
      have n := q.nm h2
      exact .of (r_app n.n n.v n.d n.c (okE G C k a _ _ _ _ q h3).pe (star0 X.env h4) h5) rfl fun _ => rfl
    · cases h
  | .ext j a, sc, fn, X, e, q, h => by
    unfold chE at h
    split at h
    · simp only [Bool.and_eq_true, decide_eq_true_eq] at h
      obtain ⟨⟨⟨⟨h1, h2⟩, h3⟩, h4⟩, h5⟩ := h
      subst h1
      have n := q.nm h2
      exact .of (r_ext n.n n.v n.d n.c (okE G C k a _ _ _ _ q h3).pe (star0 X.env h4) h5) rfl fun _ => rfl
    · cases h
  | .pop j, sc, fn, X, e, q, h => by
    unfold chE at h
    split at h
    · simp only [Bool.and_eq_true, decide_eq_true_eq] at h
      obtain ⟨⟨h1, h2⟩, h3⟩ := h
      subst h1
      have n := q.nm h2
      exact .of (r_pop n.n n.v n.d n.c h3) rfl fun _ => rfl
    · cases h
  | .popp j i, sc, fn, X, e, q, h => by
    unfold chE at h
    split at h
    · simp only [Bool.and_eq_true, decide_eq_true_eq] at h
      obtain ⟨⟨⟨h1, h0⟩, h2⟩, h3⟩ := h
      subst h1 h0
      have n := q.nm h2
      exact .of (r_popp n.n n.v n.d n.c h3) rfl fun _ => rfl
    · cases h
  | .cmb o j i, sc, fn, X, e, q, h => by
    unfold chE at h
    split at h
    · simp only [Bool.and_eq_true, decide_eq_true_eq] at h
      obtain ⟨⟨h1, h0⟩, h2⟩ := h
      subst h0
      cases cop_of h1
      have n := q.nm h2
      exact .of2 (r_cmb (coR q.hu o) n.n n.v n.d n.c rfl) rfl (r_cmbT (coR q.hu o) n.n n.v n.d n.c rfl)
    · cases h
  | .rvl a, sc, fn, X, e, q, h => by
    unfold chE at h
    split at h
    · simp only [Bool.and_eq_true] at h
      obtain ⟨⟨⟨h1, h2⟩, h3⟩, h4⟩ := h
      obtain ⟨e, hg, hm⟩ := q.b h1
      subst e
      obtain ⟨e, hg2, hm2⟩ := q.b h2
      subst e
      exact .of (r_rvl hg hm hg2 hm2 q.calm (okE G C k a _ _ _ _ q h3).pe (star0 X.env h4)) rfl fun _ => rfl
    · cases h
  | .lrg t r, sc, fn, X, e, q, h => by
    unfold chE at h
    split at h
    · simp only [Bool.and_eq_true] at h
      obtain ⟨h1, h2⟩ := h
      obtain ⟨ns, te, p1, p2, p3, p4⟩ := okR G C k r _ _ _ _ q h2
      obtain ⟨e, hg, hm⟩ := q.b h1
      subst e
      cases t with
      | false => exact .of (r_lrg q.calm hg hm p1 p2 p3 (star0 X.env ns)) rfl fun _ => rfl
      | true => exact .of (r_trg q.calm hg hm p1 p2 p3 (star0 X.env ns)) rfl fun _ => rfl
    · cases h
theorem okA (G : Gs) (C : Fn) (k : Nat) : ∀ (m : MA) (sc : Scope) (fn : Str → Bool) (X : Cx) (e : List Expr), XO G C k sc fn X → chA G m sc fn e = true → PA X e (tA X.K (denA C m))
  | .nil, sc, fn, X, e, q, h => by
    unfold chA at h
    split at h
    · exact r_nil
    · cases h
  | .cons a r, sc, fn, X, e, q, h => by
    unfold chA at h
    split at h
    · simp only [Bool.and_eq_true] at h
      exact r_cons (okE G C k a _ _ _ _ q h.1.2).pe (okA G C k r _ _ _ _ q h.2) (star1 X.env h.1.1)
    · cases h
theorem okK (G : Gs) (C : Fn) (k : Nat) : ∀ (m : MA) (sc : Scope) (fn : Str → Bool) (X : Cx) (e : List Keyword), XO G C k sc fn X → chK G m sc fn e = true → PK X e (tA X.K (denA C m))
  | .nil, sc, fn, X, e, q, h => by
    unfold chK at h
    split at h
    · exact r_knil
    · cases h
  | .cons a r, sc, fn, X, e, q, h => by
    unfold chK at h
    split at h
    · simp only [Bool.and_eq_true] at h
      exact r_kcons (okE G C k a _ _ _ _ q h.1).pe (okK G C k r _ _ _ _ q h.2)
    · cases h
theorem okO (G : Gs) (C : Fn) (k : Nat) : ∀ (m : MO) (sc : Scope) (fn : Str → Bool) (X : Cx) (e : Option Expr), XO G C k sc fn X → chO G m sc fn e = true → PO X e (tO X.K (denO C m))
  | .no, sc, fn, X, e, q, h => by
    unfold chO at h
    split at h
    · exact r_ono
    · cases h
  | .so a, sc, fn, X, e, q, h => by
    unfold chO at h
    split at h
    · exact r_oso (okE G C k a _ _ _ _ q h).pe
    · cases h
theorem okC (G : Gs) (C : Fn) (k : Nat) : ∀ (m : MO) (sc : Scope) (fn : Str → Bool) (X : Cx) (e : List Expr), XO G C k sc fn X → chC G m sc fn e = true → PTs X e (tT X.K (denC C m))
  | .no, sc, fn, X, e, q, h => by
    unfold chC at h
    split at h
    · refine ⟨fun pins s σ H Q I z => pts_nil.run pins s σ H Q I ?_⟩
      obtain ⟨T, os, ρ, b, ρ', s', e, qq⟩ := z
      rw [denC] at e
      cases e
      exact qq H os s' (.refl fun _ m => m)
    · cases h
  | .so a, sc, fn, X, e, q, h => by
    unfold chC at h
    split at h
    · simp only [Bool.and_eq_true] at h
      exact pts_one ((okE G C k a _ _ _ _ q h.1).pt h.2)
    · cases h
theorem okT (G : Gs) (C : Fn) (k : Nat) : ∀ (m : MT) (sc : Scope) (fn : Str → Bool) (fx : Nat → Bool) (X : Cx) (e : Expr), XO G C k sc fn X → chT G m sc fn fx e = true → PG X e (tG X.K fx (denT C m))
  | .nm i, sc, fn, fx, X, e, q, h => by
    unfold chT at h
    split at h
    · simp only [Bool.and_eq_true, Bool.not_eq_true'] at h
      have n := q.st h.1
      exact g_nm (by rw [q.N]; exact q.nd) n.n n.l n.f h.2
    · cases h
  | .tp ts, sc, fn, fx, X, e, q, h => by
    unfold chT at h
    split at h
    · have z := chTs_star ts _ X.env h
      exact g_tp q.calm (okTs G C k ts _ _ _ _ _ q h) z.1 z.2 fun ds ρ r e => denTs_len ts ds ρ r _ _ _ _ _ h e
    · cases h
  | .st j i, sc, fn, fx, X, e, q, h => by
    unfold chT at h
    split at h
    · simp only [Bool.and_eq_true] at h
      obtain ⟨⟨h1, h2⟩, h3⟩ := h
      have n := q.nm h1
      exact g_st n.n n.v n.d n.c (okE G C k i _ _ _ _ q h2).pe (asg_sub h3 X.env)
    · cases h
theorem okTs (G : Gs) (C : Fn) (k : Nat) : ∀ (m : MTs) (sc : Scope) (fn : Str → Bool) (fx : Nat → Bool) (X : Cx) (e : List Expr), XO G C k sc fn X → chTs G m sc fn fx e = true → PGs X e (tGs X.K fx (denTs C m))
  | .nil, sc, fn, fx, X, e, q, h => by
    unfold chTs at h
    split at h
    · exact g_nil
    · cases h
  | .cons t r, sc, fn, fx, X, e, q, h => by
    unfold chTs at h
    split at h
    · simp only [Bool.and_eq_true] at h
      rw [dts_cons]
      exact g_cons (okT G C k t _ _ _ _ _ q h.1.2) (okTs G C k r _ _ _ _ _ q h.2) (by rw [asg1 X.env h.1.1]; rfl)
    · cases h
theorem okR (G : Gs) (C : Fn) (k : Nat) : ∀ (m : MR) (sc : Scope) (fn : Str → Bool) (X : Cx) (e : Expr), XO G C k sc fn X → chR G m sc fn e = true → PSub X e (denR C m)
  | .to a, sc, fn, X, e, q, h => by
    unfold chR at h
    split at h
    · simp only [Bool.and_eq_true] at h
      obtain ⟨⟨h1, h2⟩, h3⟩ := h
      obtain ⟨e, hg, hm⟩ := q.b h1
      subst e
      have ha := (okE G C k a _ _ _ _ q h2).pe
      exact ⟨rfl, _, prg_1 hg hm ha (star0 X.env h3), fun _ _ _ z => t_r1 z, fun _ _ _ _ z => r1_small z, fun _ => i_rng1 hg hm ha (star0 X.env h3)⟩
    · cases h
  | .ft a b, sc, fn, X, e, q, h => by
    unfold chR at h
    split at h
    · simp only [Bool.and_eq_true] at h
      obtain ⟨⟨⟨⟨h1, h2⟩, h3⟩, h4⟩, h5⟩ := h
      obtain ⟨e, hg, hm⟩ := q.b h1
      subst e
      have ha := (okE G C k a _ _ _ _ q h2).pe
      have hb := (okE G C k b _ _ _ _ q h4).pe
      have s2 := star0 X.env h5
      exact ⟨rfl, _, prg_2 hg hm ha hb (star1 X.env h3) s2 (by rw [s2]; rfl), fun _ _ _ z => t_r2 z, fun _ _ _ _ z => r2_small z, fun _ => i_rng2 hg hm ha hb (star1 X.env h3) s2⟩
    · cases h
theorem okI (G : Gs) (C : Fn) (k : Nat) : ∀ (m : MI) (sc : Scope) (fn : Str → Bool) (X : Cx) (t e : Expr), XO G C k sc fn X → chI G m sc fn t e = true → PI X t e (tIt X.K (denI C m))
  | .it a, sc, fn, X, t, e, q, h => by
    unfold chI at h
    exact i_seq (okE G C k a _ _ _ _ q h).pe
  | .rng r, sc, fn, X, t, e, q, h => by
    unfold chI at h
    obtain ⟨ns, te, p1, p2, p3, p4⟩ := okR G C k r _ _ _ _ q h
    exact p4 t
  | .enu a, sc, fn, X, t, e, q, h => by
    unfold chI at h
    simp only [Bool.and_eq_true] at h
    obtain ⟨h0, h⟩ := h
    cases t with
    | Tuple elts kk tp =>
      split at h
      · simp only [Bool.and_eq_true] at h
        obtain ⟨⟨h1, h2⟩, h3⟩ := h
        obtain ⟨e, hg, hm⟩ := q.b h1
        subst e
        exact i_enu hg hm (okE G C k a _ _ _ _ q h2).pe (star0 X.env h3)
      · cases h
    | _ => cases h0
  | .zip a b, sc, fn, X, t, e, q, h => by
    unfold chI at h
    simp only [Bool.and_eq_true] at h
    obtain ⟨h0, h⟩ := h
    cases t with
    | Tuple elts kk tp =>
      split at h
      · simp only [Bool.and_eq_true] at h
        obtain ⟨⟨⟨⟨h1, h2⟩, h3⟩, h4⟩, h5⟩ := h
        obtain ⟨e, hg, hm⟩ := q.b h1
        subst e
        exact i_zip hg hm (okE G C k a _ _ _ _ q h2).pe (okE G C k b _ _ _ _ q h4).pe (star1 X.env h3) (star0 X.env h5)
      · cases h
    | _ => cases h0
end
end Rr

namespace Rr
open PySem PySem.Spec L2

def isLc : Expr → Bool
  | .ListComp _ _ _ _ => true
  | _ => false
/-- a target that is no name -/
def notNm : Expr → Bool
  | .Tuple _ _ _ => true
  | .Subscript _ _ _ => true
  | _ => false
def parNames (sc : Scope) (ts : List Expr) : List Str := ts.filterMap fun
    | .Name id pos => if sc.names.lookup id == some .local && pos.line == ((ts.head?.map (·.pos.line)).getD 0) then some id else none
    | _ => none
def parNone (sc : Scope) (ts vs : List Expr) : Bool := (!(ts.length == 2 || ts.length == 3) || vs.length != ts.length) || ((parNames sc ts).length != ts.length || (parNames sc ts).eraseDups.length != (parNames sc ts).length) || vs.all (foldedForSure 8)
def parSome (sc : Scope) (ts vs : List Expr) (ns : List Str) : Bool := (vs.length == ts.length) && decide (parNames sc ts = ns) && (ns.length == ts.length) && (ns.eraseDups.length == ns.length) && !(vs.all (foldedForSure 8)) && !(vs.all (constantsAlone 8))
mutual
def chS (G : Gs) : MS → Scope → (Str → Bool) → (Nat → Bool) → Stmt → Bool
  | .asg t m, sc, fn, fx, e => match e with
    | .Assign [tg] a _ => chE G m sc fn a && (match t, tg with
      | .nm i, .Name x _ => stC G sc fn i x && !(fx i) && (notComp a || isLc a)
      | t, tg => chT G t sc fn fx tg && notNm tg && !(isTup tg && isTup a))
    | _ => false
  | .par ts as, sc, fn, fx, e => match e with
    | .Assign [.Tuple es _ _] (.Tuple vs _ _) _ => chTs G ts sc fn fx es && chA G as sc fn vs && (parNone sc es vs || (match ts, es, vs with
      | .cons (.nm i) (.cons (.nm j) .nil), [.Name x _, .Name y _], [_, _] => parSome sc es vs [x, y] && decide (i ≠ j)
      | .cons (.nm i) (.cons (.nm j) (.cons (.nm l) .nil)), [.Name x _, .Name y _, .Name z _], [_, _, _] => parSome sc es vs [x, y, z] && decide (i ≠ j) && decide (i ≠ l) && decide (j ≠ l)
      | _, _, _ => false))
    | _ => false
  | .exp m, sc, fn, _, e => match e with
    | .Expr a _ => chE G m sc fn a && notComp a
    | _ => false
  | .ife c a b, sc, fn, fx, e => match e with
    | .If z x y _ => chE G c sc fn z && tst z && chB G a sc fn fx x && chB G b sc fn fx y
    | _ => false
  | .for t it b, sc, fn, fx, e => match e with
    | .For tg ite body [] _ => chI G it sc fn tg ite && notSet ite && chT G t sc fn fx tg && chB G b sc fn fx body
    | _ => false
  | .whl c b, sc, fn, fx, e => match e with
    | .While z body [] _ => chE G c sc fn z && tst z && chB G b sc fn fx body
    | _ => false
  | .ret m, sc, fn, _, e => match e with
    | .Return (some a) _ => chE G m sc fn a
    | _ => false
  | .retv j, sc, _, _, e => match e with
    | .Return (some (.Name x _)) _ => nmC G sc j x
    | _ => false
  | .retn, _, _, _, e => match e with
    | .Return none _ => true
    | _ => false
  | .brk, _, _, _, e => match e with
    | .Break _ => true
    | _ => false
  | .cnt, _, _, _, e => match e with
    | .Continue _ => true
    | _ => false
  | .pas, _, _, _, e => match e with
    | .Pass _ => true
    | _ => false
def chB (G : Gs) : MB → Scope → (Str → Bool) → (Nat → Bool) → List Stmt → Bool
  | .nil, _, _, _, es => match es with
    | [] => true
    | _ => false
  | .cons s r, sc, fn, fx, es => match es with
    | x :: xs => chS G s sc fn fx x && chB G r sc fn fx xs
    | [] => false
end
section
variable {G : Gs} {C : Fn} {k : Nat} {sc : Scope} {fn : Str → Bool} {fx : Nat → Bool} {X : Cx} {x y : Str} {i : Nat} {e a : Expr} {es : List Expr} {pos : Pos}
theorem sw_not {t : Option Expr} {l : Nat} (h : notComp a = true) (env : Env) : swapsWith a t l env = pure false := by
  cases a <;> first | rfl | cases h
theorem sw_tgt {tg : Expr} {l : Nat} (h : notNm tg = true) (env : Env) : swapsWithSole [tg] a l env = pure false := by
  cases tg <;> first | (cases a <;> rfl) | cases h
theorem sst_none {tg : Expr} (h : notNm tg = true) (h2 : (isTup tg && isTup a) = false) (env : Env) : swappedStores [tg] a env = pure none := by
  cases tg <;> first | (cases h; done) | (cases a <;> first | rfl | (cases h2; done))
theorem asg_one {tg : Expr} (h : notNm tg = true) (env : Env) : (assignEach [tg] env).map (·.2) = [assign tg env] := by
  cases tg <;> first | rfl | cases h
/-- whether a comprehension's value goes into the name ahead of the let-go -/
def swB (sc : Scope) (x : Str) (py : Pos) (cs : Scope) (vp : Pos) : Bool := sc.names.lookup x == some .local && py.line == vp.line && !(cs.names.any fun (n, k) => n == x && (k == .local || k == .cell))
theorem sw_f {elt : Expr} {gs : List Comprehension} {cs : Scope} {vp py : Pos} {l : Nat} {env : Env} (hs : env.scope = sc) (hk : sc.kind = .function) (h : swB sc x py cs vp = false) : swapsWith (.ListComp elt gs cs vp) (some (.Name x py)) l env = pure false := by
  have hb : env.blockKind = .function := by unfold Env.blockKind; rw [hs, hk]; rfl
  have hn : env.kindOf x = sc.names.lookup x := by rw [← hs]; rfl
  unfold swB at h
  unfold swapsWith
  simp only [hb, hn, Expr.pos, beq_self_eq_true, Bool.true_and]
  rw [h]
theorem nost_any : ∀ vs : List Expr, (∀ z ∈ vs, notStar z = true) → (vs.any fun | .Starred .. => true | _ => false) = false
  | [], _ => rfl
  | v :: vs, h => by
    rw [List.any_cons, nost_any vs fun z m => h z (List.mem_cons_of_mem _ m)]
    have := h v List.mem_cons_self
    cases v <;> first | rfl | cases this
theorem chA_ns {as : MA} : ∀ {es : List Expr}, chA G as sc fn es = true → ∀ z ∈ es, notStar z = true := by
  intro es
  induction es generalizing as with
  | nil => intro _ z m; cases m
  | cons w es ih =>
    intro h z m
    cases as with
    | nil => unfold chA at h; cases h
    | cons a as =>
      unfold chA at h
      simp only [Bool.and_eq_true] at h
      rcases List.mem_cons.mp m with e | m
      · rw [e]; exact h.1.1
      · exact ih h.2 z m
theorem sst_n {ts vs : List Expr} {k1 k2 : Nat} {p1 p2 : Pos} {env : Env} (hs : env.scope = sc) (hk : sc.kind = .function) (hv : ∀ z ∈ vs, notStar z = true) (h : parNone sc ts vs = true) : swappedStores [.Tuple ts k1 p1] (.Tuple vs k2 p2) env = pure none := by
  have hb : env.blockKind = .function := by unfold Env.blockKind; rw [hs, hk]; rfl
  have hn : ∀ x, env.kindOf x = sc.names.lookup x := fun x => by rw [← hs]; rfl
  have h0 := nost_any vs hv
  unfold swappedStores
  simp only [hb, hn, bne_self_eq_false, Bool.or_false]
  unfold parNone at h
  simp only [Bool.or_eq_true (_ || _)] at h
  by_cases c1 : (!(ts.length == 2 || ts.length == 3) || vs.length != ts.length) = true
  · exact if_pos c1
  · refine (if_neg c1).trans ((if_neg fun hh => absurd (h0.symm.trans hh) (by decide)).trans ?_)
    by_cases c2 : ((parNames sc ts).length != ts.length || (parNames sc ts).eraseDups.length != (parNames sc ts).length) = true
    · exact if_pos c2
    · refine (if_neg c2).trans ?_
      have c3 : vs.all (foldedForSure 8) = true := by
        rcases h with (h | h) | h
        · exact absurd h c1
        · exact absurd h c2
        · exact h
      exact if_pos c3
theorem sst_s {ts vs : List Expr} {k1 k2 : Nat} {p1 p2 : Pos} {env : Env} {ns : List Str} (hs : env.scope = sc) (hk : sc.kind = .function) (hl : (ts.length == 2 || ts.length == 3) = true) (hv : ∀ z ∈ vs, notStar z = true) (h : parSome sc ts vs ns = true) : swappedStores [.Tuple ts k1 p1] (.Tuple vs k2 p2) env = pure (some ns) := by
  have hb : env.blockKind = .function := by unfold Env.blockKind; rw [hs, hk]; rfl
  have hn : ∀ x, env.kindOf x = sc.names.lookup x := fun x => by rw [← hs]; rfl
  have h0 := nost_any vs hv
  unfold parSome at h
  simp only [Bool.and_eq_true, decide_eq_true_eq, Bool.not_eq_true', beq_iff_eq] at h
  obtain ⟨⟨⟨⟨⟨h1, h2⟩, h3⟩, h4⟩, h5⟩, h6⟩ := h
  unfold swappedStores
  simp only [hb, hn, bne_self_eq_false, Bool.or_false]
  have c1 : ¬ (!(ts.length == 2 || ts.length == 3) || vs.length != ts.length) = true := by rw [hl, h1]; simp
  refine (if_neg c1).trans ((if_neg fun hh => absurd (h0.symm.trans hh) (by decide)).trans ?_)
  have c2 : ¬ ((parNames sc ts).length != ts.length || (parNames sc ts).eraseDups.length != (parNames sc ts).length) = true := by rw [h2, h4]; simp [h3]
  refine (if_neg c2).trans ((if_neg fun hh => absurd (h5.symm.trans hh) (by decide)).trans ((if_neg fun hh => absurd (h6.symm.trans hh) (by decide)).trans ?_))
  rw [← h2]
  rfl
theorem par_loc {ts vs : List Expr} {ns : List Str} (h : parSome sc ts vs ns = true) : ∀ x ∈ ns, sc.names.lookup x = some .local := by
  unfold parSome at h
  simp only [Bool.and_eq_true, decide_eq_true_eq] at h
  obtain ⟨⟨⟨⟨⟨h1, h2⟩, h3⟩, h4⟩, h5⟩, h6⟩ := h
  intro x m
  rw [← h2] at m
  unfold parNames at m
  obtain ⟨w, _, hw⟩ := List.mem_filterMap.mp m
  split at hw
  · split at hw
    · rename_i z
      cases hw
      exact eq_of_beq (Bool.and_eq_true_iff.mp z).1
    · cases hw
  · cases hw
/-- name = a comprehension, the value stored ahead of the let-go -/
theorem s_setLc {m : ME} {el : Expr} {gs : List Comprehension} {cs : Scope} {vp py spos : Pos} (q : XO G C k sc fn X) (h : chE G m sc fn (.ListComp el gs cs vp) = true) (st : StOk X i y) (h0 : fx i = false) (hb : swB sc y py cs vp = true) :
    PS X (.Assign [.Name y py] (.ListComp el gs cs vp) spos) (tS X.K fx fun ρ => (den C m ρ).bind fun p => (denT C (.nm i) p.1 p.2).bind fun r => some (.nx, r)) := by
  unfold swB at hb
  simp only [Bool.and_eq_true, Bool.not_eq_true'] at hb
  obtain ⟨⟨b1, b2⟩, b3⟩ := hb
  have hy : X.env.scope.names.lookup y = some .local := by
    rw [q.scp]
    exact eq_of_beq b1
  cases m with
  | comp own tg it c elt =>
    unfold chE at h
    split at h
    · rename_i el t ite ifs scope pos heq
      cases heq
      simp only [Bool.and_eq_true] at h
      obtain ⟨⟨⟨⟨⟨h1, h2⟩, h3⟩, h4⟩, h5⟩, h6⟩ := h
      have ok := blkOk_by h1
      have ok' : BlkOk X.N X.env.scope cs (ownP G.N own) := by rw [q.N, q.scp]; exact ok
      have hb : ∀ (s : Shared) (H : Hp) (A : Addr) (cl : List (Str × Addr)) (fp : List Addr), XO G C k (relS cs sc) (fun x => cs.names.lookup x == some .cell) (X.blk s H cs (compEnvC cs cl A X.env) fp) := fun s H A cl fp => q.blk ok.kind
      have p := ps_setLc (i := i) (y := y) (py := py) (spos := spos) (pos := vp) (elt := el) (tg := t) (ifs := ifs) (te := tI X.K (den C elt)) (tt := tT X.K (denC C c)) (g := tG X.K (fun i => !own.contains i) (denT C tg)) q.calm (by rw [q.N]; exact q.nd) st.n hy
        (sw_true (by rw [q.scp]; exact q.kind) hy b2 b3) (okI G C k it _ _ _ _ _ q h2) ok'
        (fun s H A cl fp => okT G C k tg _ _ _ _ _ (hb s H A cl fp) h4) (fun s H A cl fp => okC G C k c _ _ _ _ (hb s H A cl fp) h5) (fun s H A cl fp => (okE G C k elt _ _ _ _ (hb s H A cl fp) h6).pe) (noset h3 _)
      rw [ownP_2] at p
      exact impS p fun D σ H z => t_set (fun σ H Q w => t_comp (fun _ _ _ w => w) w) h0 z
    · cases h
  | con d => unfold chE at h; cases d <;> cases h
  | _ => unfold chE at h; cases h
end
mutual
theorem okS (G : Gs) (C : Fn) (k : Nat) (fx : Nat → Bool) : ∀ (m : MS) (sc : Scope) (fn : Str → Bool) (X : Cx) (e : Stmt), XO G C k sc fn X → PassesOwn (model X.prog X.w) X.A X.env X.xe → chS G m sc fn fx e = true → PS X e (tS X.K fx (denS C m))
  | .asg t m, sc, fn, X, e, q, hp, h => by
    unfold chS at h
    split at h
    · rename_i tg a pos
      simp only [Bool.and_eq_true] at h
      obtain ⟨h1, h2⟩ := h
      split at h2
      · rename_i i x px
        simp only [Bool.and_eq_true, Bool.not_eq_true'] at h2
        obtain ⟨⟨h3, h4⟩, h5⟩ := h2
        have st := q.st h3
        have hN : X.N.Nodup := by rw [q.N]; exact q.nd
        have pe := (okE G C k m _ _ _ _ q h1).pe
        cases hc : notComp a with
        | true => exact s_set hN st.n st.l pe (sw_not hc X.env) st.f h4
        | false =>
          rw [hc, Bool.false_or] at h5
          cases a with
          | ListComp el gs cs vp =>
            cases hb : swB sc x px cs vp with
            | true => exact s_setLc q h1 st h4 hb
            | false => exact s_set hN st.n st.l pe (sw_f q.scp q.kind hb) st.f h4
          | _ => cases h5
      · simp only [Bool.and_eq_true, Bool.not_eq_true'] at h2
        obtain ⟨⟨h3, h4⟩, h5⟩ := h2
        exact s_asg (okE G C k m _ _ _ _ q h1).pe (okT G C k t _ _ _ _ _ q h3) (sw_tgt h4 X.env) (sst_none h4 h5 X.env) (asg_one h4 X.env)
    · cases h
  | .par ts as, sc, fn, X, e, q, hp, h => by
    unfold chS at h
    split at h
    · rename_i es k1 p1 vs k2 p2 pos
      simp only [Bool.and_eq_true, Bool.or_eq_true] at h
      obtain ⟨⟨h1, h2⟩, h3⟩ := h
      have ha := okA G C k as _ _ _ _ q h2
      have hv := chA_ns h2
      rcases h3 with h3 | h3
      · have z := chTs_star ts _ X.env h1
        exact s_par_ts q.calm ha (okTs G C k ts _ _ _ _ _ q h1) z.1 z.2 (fun ds ρ r e => denTs_len ts ds ρ r _ _ _ _ _ h1 e) (sw_tgt rfl X.env) (sst_n q.scp q.kind hv h3) rfl
      · split at h3
        · rename_i i j x px y py a b
          simp only [Bool.and_eq_true, decide_eq_true_eq] at h3
          obtain ⟨h3, hij⟩ := h3
          have hw := sst_s (k1 := k1) (k2 := k2) (p1 := p1) (p2 := p2) q.scp q.kind rfl hv h3
          unfold chTs at h1
          simp only [Bool.and_eq_true] at h1
          obtain ⟨⟨_, t1⟩, h1⟩ := h1
          unfold chTs at h1
          simp only [Bool.and_eq_true] at h1
          obtain ⟨⟨_, t2⟩, _⟩ := h1
          unfold chT at t1 t2
          simp only [Bool.and_eq_true, Bool.not_eq_true'] at t1 t2
          have s1 := q.st t1.1
          have s2 := q.st t2.1
          have loc := par_loc h3
          exact s_par2 q.calm (by rw [q.N]; exact q.nd) s1.n s2.n hij (by rw [q.scp]; exact loc x (by simp)) (by rw [q.scp]; exact loc y (by simp)) ha ⟨t1.2, t2.2⟩ hw (sw_tgt rfl X.env)
        · rename_i i j l x px y py z pz a b c
          simp only [Bool.and_eq_true, decide_eq_true_eq] at h3
          obtain ⟨⟨⟨h3, hij⟩, hil⟩, hjl⟩ := h3
          have hw := sst_s (k1 := k1) (k2 := k2) (p1 := p1) (p2 := p2) q.scp q.kind rfl hv h3
          unfold chTs at h1
          simp only [Bool.and_eq_true] at h1
          obtain ⟨⟨_, t1⟩, h1⟩ := h1
          unfold chTs at h1
          simp only [Bool.and_eq_true] at h1
          obtain ⟨⟨_, t2⟩, h1⟩ := h1
          unfold chTs at h1
          simp only [Bool.and_eq_true] at h1
          obtain ⟨⟨_, t3⟩, _⟩ := h1
          unfold chT at t1 t2 t3
          simp only [Bool.and_eq_true, Bool.not_eq_true'] at t1 t2 t3
          have s1 := q.st t1.1
          have s2 := q.st t2.1
          have s3 := q.st t3.1
          have loc := par_loc h3
          exact s_par3 q.calm (by rw [q.N]; exact q.nd) s1.n s2.n s3.n hij hil hjl (by rw [q.scp]; exact loc x (by simp)) (by rw [q.scp]; exact loc y (by simp)) (by rw [q.scp]; exact loc z (by simp)) ha ⟨t1.2, t2.2, t3.2⟩ hw (sw_tgt rfl X.env)
        · cases h3
    · cases h
  | .exp m, sc, fn, X, e, q, hp, h => by
    unfold chS at h
    split at h
    · simp only [Bool.and_eq_true] at h
      exact s_exp (okE G C k m _ _ _ _ q h.1).pe (sw_not h.2 X.env)
    · cases h
  | .ife c a b, sc, fn, X, e, q, hp, h => by
    unfold chS at h
    split at h
    · simp only [Bool.and_eq_true] at h
      obtain ⟨⟨⟨h1, h2⟩, h3⟩, h4⟩ := h
      exact s_if ((okE G C k c _ _ _ _ q h1).pt h2) (okB G C k fx a _ _ _ _ q hp h3) (okB G C k fx b _ _ _ _ q hp h4)
    · cases h
  | .for t it b, sc, fn, X, e, q, hp, h => by
    unfold chS at h
    split at h
    · simp only [Bool.and_eq_true] at h
      obtain ⟨⟨⟨h1, h2⟩, h3⟩, h4⟩ := h
      exact s_for hp q.calm (okI G C k it _ _ _ _ _ q h1) (okT G C k t _ _ _ _ _ q h3) (okB G C k fx b _ _ _ _ q hp h4) (noset h2 _)
    · cases h
  | .whl c b, sc, fn, X, e, q, hp, h => by
    unfold chS at h
    split at h
    · simp only [Bool.and_eq_true] at h
      obtain ⟨⟨h1, h2⟩, h3⟩ := h
      exact s_whl hp ((okE G C k c _ _ _ _ q h1).pt h2) (okB G C k fx b _ _ _ _ q hp h3)
    · cases h
  | .ret m, sc, fn, X, e, q, hp, h => by
    unfold chS at h
    split at h
    · exact s_ret (okE G C k m _ _ _ _ q h).pe
    · cases h
  | .retv j, sc, fn, X, e, q, hp, h => by
    unfold chS at h
    split at h
    · have n := q.nm h
      exact s_retv n.n n.v n.d n.c
    · cases h
  | .retn, sc, fn, X, e, q, hp, h => by
    unfold chS at h
    split at h
    · exact s_retn
    · cases h
  | .brk, sc, fn, X, e, q, hp, h => by
    unfold chS at h
    split at h
    · exact s_brk
    · cases h
  | .cnt, sc, fn, X, e, q, hp, h => by
    unfold chS at h
    split at h
    · exact s_cnt
    · cases h
  | .pas, sc, fn, X, e, q, hp, h => by
    unfold chS at h
    split at h
    · exact s_pas
    · cases h
theorem okB (G : Gs) (C : Fn) (k : Nat) (fx : Nat → Bool) : ∀ (m : MB) (sc : Scope) (fn : Str → Bool) (X : Cx) (e : List Stmt), XO G C k sc fn X → PassesOwn (model X.prog X.w) X.A X.env X.xe → chB G m sc fn fx e = true → PSs X e (tS X.K fx (denB C m))
  | .nil, sc, fn, X, e, q, hp, h => by
    unfold chB at h
    split at h
    · exact ss_nil
    · cases h
  | .cons s r, sc, fn, X, e, q, hp, h => by
    unfold chB at h
    split at h
    · simp only [Bool.and_eq_true] at h
      exact ss_cons (okS G C k fx s _ _ _ _ q hp h.1) (okB G C k fx r _ _ _ _ q hp h.2)
    · cases h
end
end Rr

namespace Rr
open PySem PySem.Spec L2

/-! ### a def, by its body in the small language -/
theorem start_rep {K : PySem.W.Frag} {H : Hp} {O : List Addr} : ∀ {vs : List V} {ds : List D} {os : List Addr} (n : Nat), RepA K H O vs ds os → RepS K H O (vs.map some ++ List.replicate n none) (ds.map some ++ List.replicate n none) os
  | _, _, _, n, .nil => by
    show RepS K H O (List.replicate n none) (List.replicate n none) []
    induction n with
    | zero => exact .nil
    | succ n ih => exact .no ih
  | _, _, _, n, .cons r t => .so r (start_rep n t)
section
variable {P : Program} {w : World} {K : PySem.W.Frag} {mg : Str → Option Value} {base : Heap} {x qual : Str} {params : Arguments} {body : List Stmt} {scope : Scope} {dvs : List V} {kws : List (Str × V)} {f : Addr} {fd : FuncData} {N ps : List Str} {k : Nat}
theorem fnk_of {sp : Sp} (F : FunD K x qual params body scope dvs kws f fd) (S : FnScope N ps scope) (hl : ∀ ws H Q E, sp ws H Q E → ws.length = ps.length)
    (hB : ∀ (cv : Value) (A : Around) (out : List Env) (s : Shared) (H : Hp) (ws : List V) (Q : VK), Room k (A.deeper (PyProof.Rows.envOfC qual scope s.heap.objs.size f cv)) → (A.deeper (PyProof.Rows.envOfC qual scope s.heap.objs.size f cv)).guards = some [] → sp ws H Q E0 →
      ∃ t, PSs (cxOf CX0 P w K mg base N qual scope f cv A out s H E0) body t ∧ t ⟨fun _ H' => Q .non H', Q, fun _ _ => False, fun _ _ => False⟩ (start N ws) H) : Fnk P w K mg base (k + 1) f fd ps sp := by
  obtain ⟨oc, od, dV, kV, doc, pm, an, cv, ct, osl, rfl, hlk, hcode, _, _⟩ := F.ex
  refine ⟨hl, fun A out s H args us ws Q room hgs en hbd rel hs => ?_⟩
  have hlen := hl _ _ _ _ hs
  have inK : K.In s.heap := en.mod.kin.keeps fun b o e => (en.bs b o e).1
  have noLim : s.heap.NoLimit := en.mod.nolimit.keeps fun b o e => (en.bs b o e).1
  have kinds : ∀ y ∈ ps.zip us, scope.names.lookup y.1 = some .local ∨ (scope.names.lookup y.1 = some .cell ∧ ((cellsFrom (s.heap.objs.size + 1) scope.names []).lookup y.1).isSome = true) := by
    rintro ⟨nm, u⟩ hy
    exact (S.par nm (List.of_mem_zip hy).1).imp _root_.id fun z => ⟨z, PySem.W.cellsFrom_some _ _ _ (.inl z)⟩
  refine codeAny_call_function room.depth (inK _ _ hlk) rfl S.co S.gen rfl (PySem.W.codeRec_of inK hcode) (hbd _ _ _ _ ?_)
  refine wpAny_newFunctionEnv_cells S.kind kinds fun env he s1 inC => ?_
  subst he
  refine ⟨noLim.keeps inC.toInCall.keep, codeAny_func ?_⟩
  obtain ⟨t, ht, hq⟩ := hB cv A out s H ws Q (room.deeper _) hgs hs
  have I := inv_start (CX := CX0) (P := P) (w := w) (K := K) (mg := mg) (base := base) (E := E0) S room.hd en hlen rel inC
  refine wpAny_mono (ht.run [] s1 (start N ws) H _ I hq) (fun fl s' z => ?_) fun _ _ z => z
  have done : ∀ {σ' : L2.St} {H' : Hp} {v : V} {u : Value}, Inv (cxOf CX0 P w K mg base N qual scope f cv A out s H E0) [] σ' H' s' → RelV v u → Q v H' → CE out P w H s Q u s' := fun {σ' H' v u} J rv q => ⟨v, H', J.os, J.bare, J.base, J.hok, rv, q⟩
  cases fl with
  | next => exact let ⟨_, _, J, q⟩ := z; done (v := V.non) (u := Value.none) J rfl q
  | ret u => exact let ⟨_, _, _, J, rv, q⟩ := z; done J rv q
  | brk => exact let ⟨_, _, _, q⟩ := z; False.elim q
  | cont => exact let ⟨_, _, _, q⟩ := z; False.elim q
/-- the slots that a def leaves: the first, where it is handed in and out -/
def fixB (io : Bool) : Nat → Bool := fun i => io && i == 0
theorem fnk_mf {G : Gs} {M : MF} {C : Fn} (F : FunD K x qual params body scope dvs kws f fd) (S : FnScope N ps scope) (hN : G.N = N) (hp : ps.length = M.ps) (hn : N.length = M.ns) (hch : chB G M.body scope (fun _ => true) (fixB M.io) body = true)
    (hbl : ∀ x ∈ blts, mg x = none)
    (hcal : ∀ (g : Nat) x, G.fns[g]? = some x → ∃ f fd ps, mg x = some (.ref f) ∧ PySem.W.keepIn K (.ref f) = true ∧ Binds K fd ps [] ∧ Fnk P w K mg base k f fd ps (spF K (C g)))
    (hckw : ∀ e ∈ G.kwt, ∀ x, G.fns[e.1]? = some x → ∃ f fd ps, mg x = some (.ref f) ∧ PySem.W.keepIn K (.ref f) = true ∧
      (∀ (s : Shared) (ws : List Value), ws.length = e.2.1.length → BindsTo s fd ⟨[], e.2.1.zip ws⟩ (ps.zip (e.2.2.filterMap fun k => ws[k]?))) ∧ Fnk P w K mg base k f fd ps (spF K (C e.1))) :
    Fnk P w K mg base (k + 1) f fd ps (spF K (runF C M)) := by
  refine fnk_of F S (fun ws H Q E h => ?_) fun cv A out s H ws Q hr hgs h => ?_
  · obtain ⟨T, os, ds, r, o, h1, h2, h3, h4, h5⟩ := h
    unfold runF at h4
    split at h4
    · rename_i hc
      rw [h1.length, hp]
      exact hc.1
    · cases h4
  · have X : XO G C k scope (fun _ => true) (cxOf CX0 P w K mg base N qual scope f cv A out s H E0) :=
      ⟨hN.symm, by rw [hN]; exact S.nd, rfl, S.kind, fun _ _ => rfl, rfl, hr, hgs, by have := hr.un; exact Nat.lt_of_le_of_lt (Nat.add_le_add (Nat.le_add_right _ (16 * k)) (by decide : 100 ≤ 200)) this, hbl, hcal, hckw⟩
    refine ⟨_, okB G C k (fixB M.io) M.body scope _ _ body X (PassesOwn.leaving) hch, ?_⟩
    obtain ⟨T, os, ds, r, o, h1, h2, h3, h4, h5⟩ := h
    unfold runF at h4
    split at h4
    · rename_i hc
      obtain ⟨⟨fl, ρ'⟩, e1, h4⟩ := Option.bind_eq_some_iff.mp h4
      have hlen : N.length - ws.length = M.ns - M.ps := by rw [h1.length, hc.1, hn]
      have s0 : SI K H T os (start N ws) (ds.map some ++ List.replicate (M.ns - M.ps) none) := by
        refine ⟨?_, h2, h3⟩
        unfold L2.start
        rw [hlen]
        exact start_rep _ h1
      -- the end, by the value
      have fin : ∀ (d : D) (σ' : L2.St) (v : V) (H' : Hp) (ov os' : List Addr), (if M.io then (match ρ'[0]? with | some (some x) => some (d, [x]) | _ => none) else some (d, [])) = some (r, o) →
          Out K σ' T os H H' ρ' v d ov os' → Sx (fixB M.io) (start N ws) σ' → Q v H' := fun d σ' v H' ov os' e out sx => by
        cases hio : M.io with
        | false =>
          rw [hio] at e
          cases e
          have sub : ∀ z ∈ T ++ (ov ++ []), z ∈ T ++ (ov ++ os') := fun z m => by
            rw [List.append_nil] at m
            rcases List.mem_append.mp m with m | m
            · exact List.mem_append_left _ m
            · exact List.mem_append_right _ (List.mem_append_left _ m)
          refine h5 v H' ov [] ⟨out.rv.sub sub, .nil, ?_, out.fr.less fun z m => ?_⟩
          · exact out.nd.sublist (List.Sublist.append (List.Sublist.refl _) (List.Sublist.append (List.Sublist.refl _) (List.nil_sublist _)))
          · rw [List.append_nil] at m
            exact List.mem_append_left _ m
        | true =>
          rw [hio] at e
          simp only [if_true] at e
          split at e
          · rename_i y hy
            cases e
            obtain ⟨v0, pre, oi, post, g1, g2, g3, _⟩ := out.rs.split hy
            subst g2
            have g4 := sx.fix 0 (by rw [hio]; rfl)
            rw [g1] at g4
            have hw : ∃ ws', ws = v0 :: ws' := by
              cases ws with
              | nil =>
                unfold L2.start at g4
                simp only [List.map_nil, List.nil_append] at g4
                rw [List.getElem?_replicate] at g4
                split at g4 <;> cases g4
              | cons a ws' =>
                cases g4
                exact ⟨ws', rfl⟩
            obtain ⟨ws', rfl⟩ := hw
            have sub2 : ∀ z ∈ ov ++ oi, z ∈ ov ++ (pre ++ (oi ++ post)) := fun z m => by
              simp only [List.mem_append] at m ⊢
              rcases m with m | m
              · exact .inl m
              · exact .inr (.inr (.inl m))
            have sub : ∀ z ∈ T ++ (ov ++ oi), z ∈ T ++ (ov ++ (pre ++ (oi ++ post))) := fun z m => (List.mem_append.mp m).elim (fun q => List.mem_append_left _ q) fun q => List.mem_append_right _ (sub2 z q)
            have one := RepA.cons (g3.sub sub) .nil
            rw [List.append_nil] at one
            refine h5 v H' ov oi ⟨out.rv.sub sub, one, ?_, out.fr.less sub2⟩
            exact out.nd.sublist (List.Sublist.append (List.Sublist.refl _) (List.Sublist.append (List.Sublist.refl _) ((List.sublist_append_left _ _).trans (List.sublist_append_right _ _))))
          · cases e
      refine ⟨T, os, _, fl, ρ', s0, e1, ?_⟩
      cases fl with
      | nx => exact fun σ' H' os' s' f' x' => fin .non σ' .non H' [] os' h4 (Rr.fin s' f' (.same .non)) x'
      | rt d => exact fun σ' v H' ov os' o' x' => fin d σ' v H' ov os' h4 o' x'
      | bk => cases h4
      | ct => cases h4
    · cases h4
end

/-! ### a whole text -/
structure Dd where
  d : He.DefD
  ps : List Str
  N : List Str
  m : MF
def scC (N ps : List Str) (sc : Scope) : Bool := decide (sc.kind = .function) && !sc.isCoroutine && !sc.isGenerator && decide N.Nodup && decide (N.take ps.length = ps) &&
  (ps.all fun x => match sc.names.lookup x with | some .local => true | some .cell => true | _ => false) && (sc.names.all fun y => decide (y.2 ≠ .free))
theorem sc_of {N ps : List Str} {sc : Scope} (h : scC N ps sc = true) : FnScope N ps sc := by
  unfold scC at h
  simp only [Bool.and_eq_true, decide_eq_true_eq, Bool.not_eq_true', List.all_eq_true] at h
  obtain ⟨⟨⟨⟨⟨⟨h1, h2⟩, h3⟩, h4⟩, h5⟩, h6⟩, h7⟩ := h
  refine ⟨h1, h2, h3, h4, h5, fun x m => ?_, h7⟩
  have := h6 x m
  split at this
  · exact .inl (by assumption)
  · exact .inr (by assumption)
  · cases this
def dChk (fns : List Str) (kwt : List (Nat × List Str × List Nat)) (e : Dd) : Bool := scC e.N e.ps e.d.scope && decide (e.ps.length = e.m.ps) && decide (e.N.length = e.m.ns) && chB ⟨e.N, fns, kwt⟩ e.m.body e.d.scope (fun _ => true) (fixB e.m.io) e.d.body
/-- bound by place -/
def BndP (e : Dd) : Prop := ∀ (kV doc pm : Value) (an : Option Addr) (cdv ct : Value) (us : List Value), us.length = e.ps.length → bindArgs (PySem.W.fnOf e.d.name e.d.qual e.d.params e.d.body e.d.scope .none kV doc pm an cdv ct) ⟨us, []⟩ = pure (e.ps.zip us)
/-- bound by names -/
def BndK (e : Dd) (ks : List Str) (pm : List Nat) : Prop := ∀ (kV doc pm' : Value) (an : Option Addr) (cdv ct : Value) (ws : List Value), ws.length = ks.length → bindArgs (PySem.W.fnOf e.d.name e.d.qual e.d.params e.d.body e.d.scope .none kV doc pm' an cdv ct) ⟨[], ks.zip ws⟩ = pure (e.ps.zip (pm.filterMap fun k => ws[k]?))
structure Prog (ds : List Dd) (kwt : List (Nat × List Str × List Nat)) : Prop where
  chk : ∀ e ∈ ds, dChk (ds.map (·.d.name)) kwt e = true
  bnd : ∀ e ∈ ds, BndP e
  bndk : ∀ q ∈ kwt, ∀ e, ds[q.1]? = some e → BndK e q.2.1 q.2.2
section
variable {P : Program} {w : World} {K : PySem.W.Frag} {mg : Str → Option Value} {base : Heap} {ds : List Dd} {kwt : List (Nat × List Str × List Nat)}
theorem prog_ok (p : Prog ds kwt) (hf : ∀ e ∈ ds, ∃ fd, FunD K e.d.name e.d.qual e.d.params e.d.body e.d.scope [] [] (He.ga K e.d.name) fd) (hg : ∀ e ∈ ds, mg e.d.name = some (.ref (He.ga K e.d.name))) (hb : ∀ x ∈ blts, mg x = none) :
    ∀ (k f : Nat) (e : Dd), ds[f]? = some e → ∀ fd, FunD K e.d.name e.d.qual e.d.params e.d.body e.d.scope [] [] (He.ga K e.d.name) fd → Fnk P w K mg base k (He.ga K e.d.name) fd e.ps (spF K (callN (ds.map (·.m)) k f)) := by
  intro k
  induction k with
  | zero =>
    intro f e _ fd _
    have no : ∀ ws H Q E, ¬ spF K (callN (ds.map (·.m)) 0 f) ws H Q E := fun ws H Q E ⟨_, _, _, _, _, _, _, _, h, _⟩ => by cases h
    exact ⟨fun ws H Q E h => (no _ _ _ _ h).elim, fun _ _ _ _ _ _ _ _ _ _ _ _ _ h => (no _ _ _ _ h).elim⟩
  | succ k ih =>
    intro f e he fd F
    have hc := p.chk e (List.mem_of_getElem? he)
    unfold dChk at hc
    simp only [Bool.and_eq_true, decide_eq_true_eq] at hc
    obtain ⟨⟨⟨c1, c2⟩, c3⟩, c4⟩ := hc
    have e2 : callN (ds.map (·.m)) (k + 1) f = runF (callN (ds.map (·.m)) k) e.m := by
      funext xs
      rw [callN, List.getElem?_map, he]
      rfl
    rw [e2]
    have find : ∀ (g : Nat) (x : Str), (ds.map (·.d.name))[g]? = some x → ∃ e', ds[g]? = some e' ∧ e'.d.name = x := fun g x h => by
      rw [List.getElem?_map] at h
      exact Option.map_eq_some_iff.mp h
    refine fnk_mf (G := ⟨e.N, ds.map (·.d.name), kwt⟩) F (sc_of c1) rfl c2 c3 c4 hb (fun g x h => ?_) fun q hq x h => ?_
    · obtain ⟨e', he', rfl⟩ := find g x h
      have me := List.mem_of_getElem? he'
      obtain ⟨fd', F'⟩ := hf e' me
      exact ⟨_, fd', e'.ps, hg e' me, F'.kp, F'.bindsN (p.bnd e' me), ih g e' he' fd' F'⟩
    · obtain ⟨e', he', rfl⟩ := find q.1 x h
      have me := List.mem_of_getElem? he'
      obtain ⟨fd', F'⟩ := hf e' me
      refine ⟨_, fd', e'.ps, hg e' me, F'.kp, fun s ws hl => ?_, ih q.1 e' he' fd' F'⟩
      obtain ⟨oc, od, dV, kV, doc, pm, an, cdv, ct, osl, rfl, lk, hcd, hD, hK⟩ := F'.ex
      rcases hD with ⟨_, rfl⟩ | ⟨z, _⟩
      · exact .of_eq (p.bndk q hq e' he' kV doc pm an cdv ct ws hl)
      · exact absurd rfl z
end
end Rr

namespace Rr
open PySem PySem.Spec L2

/-! ### the law's own call -/
theorem lawk {P : Program} {w : World} {K : PySem.W.Frag} {mg mb : Str → Option Value} {k : Nat} {fa a : Addr} {fd : FuncData} {x : Str} {s : Shared} {us : List Value} {ns : List Int} {m : List D → Option (D × List D)}
    (inK : K.In s.heap) (gN : s.heap.Ns mainGlobals mg) (bN : s.heap.Ns builtinsNs mb) (bB : ∀ y : Str, y ≠ "__name__" → mb y = bootBuiltins y) (nl : s.heap.NoLimit) (gens : s.gens = #[])
    (obj : s.heap.get? a = some { cls := .type "list", data := .seq us.toArray }) (arei : PyProof.Rows.IntsAre us ns) (size : ns.length ≤ sizeLine) (room : Room k callerA)
    (F : ∀ base : Heap, K.In base → base.Ns mainGlobals mg → Fnk P w K mg base k fa fd [x] (spF K m)) (bd : ∀ (s : Shared) (u : Value), BindsTo s fd ⟨[u], []⟩ [(x, u)]) (hm : m [.scr ns] = some (.bl true, [])) :
    codeAny (model P w) callerA (.call (.ref fa) ⟨[.ref a], []⟩) (fun r s' => r = .ok (.ret (.bool true)) ∧ OldK s.heap s'.heap ∧ s'.os = s.os ∧ PyProof.Rows.AllBare s'.gens) s := by
  have vals := vals_ints arei
  -- from a heap in which at most the script is tracked
  have key : ∀ H : Hp, (∀ b u, H b = some u → b = a ∧ u = .frz { cls := .type "list", data := .seq us.toArray } (.lst (ns.map V.int))) → ScL K H a (ns.map V.int) → (H a ≠ none → K.lookup a = none) →
      codeAny (model P w) callerA (.call (.ref fa) ⟨[.ref a], []⟩) (fun r s' => r = .ok (.ret (.bool true)) ∧ OldK s.heap s'.heap ∧ s'.os = s.os ∧ PyProof.Rows.AllBare s'.gens) s := by
    intro H hH sc hK
    have hok : HOk P w H s.heap := fun b u e => by
      obtain ⟨rfl, rfl⟩ := hH b u e
      exact ⟨obj, by rw [List.length_map]; exact size, us, _, vals, obj⟩
    have free : ∀ {b : Addr} {o : Obj} {es : Array DictEntry} {ep : Nat}, s.heap.get? b = some o → o.data = .dict es ep → H b = none := fun {b o es ep} e dd => by
      cases hb : H b with
      | none => rfl
      | some u =>
        obtain ⟨rfl, _⟩ := hH b u hb
        rw [obj] at e
        cases e
        cases (show Data.seq us.toArray _ = Data.dict es ep from dd)
    have nsH : ∀ {b : Addr} {t : Str → Option Value}, s.heap.Ns b t → (hidT s.heap H).Ns b t := fun {b t} ⟨o, es, ep, e, dd, r⟩ => ⟨o, es, ep, hidT_get e (free e dd), dd, r⟩
    have inH : K.In (hidT s.heap H) := fun b o e => hidT_get (inK b o e) (by
      cases hb : H b with
      | none => rfl
      | some u =>
        obtain ⟨rfl, _⟩ := hH b u hb
        rw [hK (by rw [hb]; simp)] at e
        cases e)
    have md : Mod K mg (hidT s.heap H) := ⟨inH, nsH gN, ⟨mb, nsH bN, bB⟩, let ⟨mc, q1, q2⟩ := nl; ⟨mc, nsH q1, q2⟩⟩
    have en : Env0 P w K mg (hidT s.heap H) callerA [] s H := ⟨rfl, md, fun _ _ e => of_hidT e, Nat.le_of_eq (hidT_size _ _), trivial, fun b hb => (nomatch (show b ∈ ([] : List Addr) from hb)), hok, .of_eq gens⟩
    have ask : spF K m [.ref a] H (fun v _ => v = .bl true) E0 := by
      refine ⟨[], [], [.scr ns], .bl true, [], ?_, List.nodup_nil, fun _ q => (nomatch q), hm, fun v H' ov os' q => ?_⟩
      · have := RepA.cons (Rep.scr (K := K) (H := H) (O := []) sc) .nil
        exact this
      · have := q.rv
        cases this
        rfl
    refine codeAny_mono ((F _ inH (nsH gN)).run callerA [] s H ⟨[.ref a], []⟩ [.ref a] [.ref a] _ room rfl en (bd s (.ref a)) (.cons rfl .nil) ask) fun r s' z => ?_
    cases r with
    | error e => exact z.elim
    | ok fl =>
      cases fl with
      | ret u =>
        obtain ⟨v, H', os, bare, un, hok', rv, rfl⟩ := z
        obtain rfl : u = Value.bool true := rv
        refine ⟨rfl, OldK.of_keep fun b o e => ?_, os, bare⟩
        cases hb : H b with
        | none => exact un.keep b o e hb (fun q => nomatch (show b ∈ ([] : List Addr) from q)) (by simp)
        | some u =>
          obtain ⟨rfl, rfl⟩ := hH b u hb
          obtain ⟨g1, _⟩ := hok' b _ (un.frzs b _ _ hb)
          rw [obj] at e
          cases e
          exact g1
      | _ => exact z.elim
  cases hk : K.lookup a with
  | some o =>
    have e := inK a o hk
    rw [obj] at e
    cases e
    refine key (fun _ => none) (fun b u z => nomatch (show (none : Option HO) = some u from z)) (.inr ⟨_, us.toArray, _, hk, rfl, rfl, rfl, ?_, vals⟩) fun z => absurd rfl z
    rw [List.size_toArray, arei.length]
    exact size
  | none =>
    refine key (fun b => if b = a then some (.frz { cls := .type "list", data := .seq us.toArray } (.lst (ns.map V.int))) else none) (fun b u z => ?_) (.inl ⟨_, if_pos rfl⟩) fun _ => hk
    by_cases hb : b = a
    · have z' := (if_pos hb).symm.trans z
      cases z'
      exact ⟨hb, rfl⟩
    · have z' := (if_neg hb).symm.trans z
      cases z'
theorem walkk {l : PySem.W.OpenLaw} {n k : Nat} {q : Program} {loose : List Str} {XP : (Str → Option Value) → Heap → Prop} {YP : World → Heap → Prop} {d : DefRec} {x : Str} {m : List D → Option (D × List D)} (hn : l.most = some n) (hz : n ≤ sizeLine) (hd : d.params.defaults = []) (room : Room k callerA)
    (F : ∀ (w : World) (mg : Str → Option Value) (fa : Addr) (h : Heap), YP w h → h.Ns mainGlobals mg → mg d.name = some (.ref fa) → ∃ (K : PySem.W.Frag) (fd : FuncData), K.In h ∧ (∀ (s : Shared) (u : Value), BindsTo s fd ⟨[u], []⟩ [(x, u)]) ∧
        ∀ base : Heap, K.In base → base.Ns mainGlobals mg → Fnk l.prog w K mg base k fa fd [x] (spF K m))
    (hm : ∀ ns : List Int, ns.length ≤ n → (∀ i ∈ ns, Builtin.Int.intBits i ≤ 1048576) → m [.scr ns] = some (.bl true, [])) :
    PySem.W.WalkO q loose XP YP l.row.toRowW d [] (fun f vs => PySem.call f vs) := by
  refine Att.attach_callB hn hd fun w _ s mg mb fa _ _ _ _ a us ns Gr Y _ _ _ hmg obj arei len bits gens => ?_
  obtain ⟨K, fd, inK, bd, hF⟩ := F w mg fa _ Y Gr.T.g hmg
  exact lawk inK Gr.T.g Gr.T.b Gr.T.builtins Gr.T.nolimit gens obj arei (Nat.le_trans len hz) room hF bd (hm ns len bits)
/-! ### the head's facts -/
def facts (ds : List Dd) : List He.Fa := (ds.map fun e => He.Fa.glo e.d.name) ++ blts.map He.Fa.free
theorem from_head {P : Program} {w : World} {K : PySem.W.Frag} {h : Heap} {mg : Str → Option Value} {fa : Addr} {ds : List Dd} {kwt : List (Nat × List Str × List Nat)} {k fl : Nat} {el : Dd} {x nm : Str} (p : Prog ds kwt) (hl : ds[fl]? = some el) (hx : el.ps = [x]) (hnm : el.d.name = nm)
    (hat : ∀ e ∈ ds, e.d.at_ = (e.d.name, none) ∧ e.d.dfl = [] ∧ e.d.kwd = []) (inK : K.In h) (G : h.Ns mainGlobals mg) (hfa : mg nm = some (.ref fa)) (c : He.SaysD (facts ds) (ds.map (·.d)) K) :
    ∃ fd : FuncData, (∀ (s : Shared) (u : Value), BindsTo s fd ⟨[u], []⟩ [(x, u)]) ∧ ∀ base : Heap, K.In base → base.Ns mainGlobals mg → Fnk P w K mg base k fa fd [x] (spF K (callN (ds.map (·.m)) k fl)) := by
  have hf : ∀ e ∈ ds, ∃ fd, FunD K e.d.name e.d.qual e.d.params e.d.body e.d.scope [] [] (He.ga K e.d.name) fd := fun e m => by
    obtain ⟨i, hi⟩ := List.mem_iff_getElem?.mp m
    obtain ⟨fd, F⟩ := c.def_ i (d := e.d) (by rw [List.getElem?_map, hi]; rfl)
    obtain ⟨z1, z2, z3⟩ := hat e m
    unfold He.DefD.dvs He.DefD.kws He.fAd at F
    rw [z1, z2, z3] at F
    exact ⟨fd, F⟩
  have hg : ∀ e ∈ ds, mg e.d.name = some (.ref (He.ga K e.d.name)) := fun e m => by
    obtain ⟨i, hi⟩ := List.mem_iff_getElem?.mp m
    refine He.glo_ok inK G (c.fact i (f := .glo e.d.name) ?_)
    unfold facts
    rw [List.getElem?_append_left (by rw [List.length_map]; exact (List.getElem?_eq_some_iff.mp hi).1), List.getElem?_map, hi]
    rfl
  have hb : ∀ y ∈ blts, mg y = none := fun y m => by
    obtain ⟨i, hi⟩ := List.mem_iff_getElem?.mp m
    refine He.free_ok inK G (c.fact (ds.length + i) (f := .free y) ?_)
    unfold facts
    rw [List.getElem?_append_right (by rw [List.length_map]; exact Nat.le_add_right _ _), List.length_map, Nat.add_sub_cancel_left, List.getElem?_map, hi]
    rfl
  have ml := List.mem_of_getElem? hl
  obtain ⟨fd, F⟩ := hf el ml
  have e := hfa.symm.trans (hnm ▸ hg el ml)
  cases e
  subst hnm
  refine ⟨fd, fun s u => ?_, fun base _ _ => ?_⟩
  · have b := FunD.bindsA (ps := el.ps) F (p.bnd el ml) s [u] (by rw [hx]; rfl)
    rw [hx] at b
    exact b
  · have := prog_ok (P := P) (w := w) (base := base) p hf hg hb k fl el hl fd F
    rw [hx] at this
    exact this
/-- a def's row of the top -/
def defOf (n : Nat) (p : Program) : He.DefD := match p.main.body[n]? with
  | some (.FunctionDef x a b _ _ _ sc _ _ _) => ⟨(x, none), x, x, a, b, sc, [], []⟩
  | _ => ⟨("", none), "", "", ⟨[], [], none, [], [], none, []⟩, [], ⟨.module, [], false, false, []⟩, [], []⟩
end Rr

namespace Rr
open PySem PySem.Spec L2

/-! ## the small language, run by hand -/
inductive wE (C : Fn) (e : ME) (ρ : Rho) (Q : D → Rho → Prop) : Prop
  | mk (d : D) (r : Rho) : den C e ρ = some (d, r) → Q d r → wE C e ρ Q
inductive wA (C : Fn) (e : MA) (ρ : Rho) (Q : List D → Rho → Prop) : Prop
  | mk (d : List D) (r : Rho) : denA C e ρ = some (d, r) → Q d r → wA C e ρ Q
inductive wO (C : Fn) (e : MO) (ρ : Rho) (Q : Option Int → Rho → Prop) : Prop
  | mk (d : Option Int) (r : Rho) : denO C e ρ = some (d, r) → Q d r → wO C e ρ Q
inductive wT (C : Fn) (t : MT) (d : D) (ρ : Rho) (Q : Rho → Prop) : Prop
  | mk (r : Rho) : denT C t d ρ = some r → Q r → wT C t d ρ Q
inductive wTs (C : Fn) (t : MTs) (d : List D) (ρ : Rho) (Q : Rho → Prop) : Prop
  | mk (r : Rho) : denTs C t d ρ = some r → Q r → wTs C t d ρ Q
inductive wR (C : Fn) (e : MR) (ρ : Rho) (Q : Int → Int → Rho → Prop) : Prop
  | mk (i j : Int) (r : Rho) : denR C e ρ = some (i, j, r) → Q i j r → wR C e ρ Q
inductive wI (C : Fn) (e : MI) (ρ : Rho) (Q : List D → Rho → Prop) : Prop
  | mk (d : List D) (r : Rho) : denI C e ρ = some (d, r) → Q d r → wI C e ρ Q
inductive wS (C : Fn) (s : MS) (ρ : Rho) (Q : Fl → Rho → Prop) : Prop
  | mk (f : Fl) (r : Rho) : denS C s ρ = some (f, r) → Q f r → wS C s ρ Q
inductive wB (C : Fn) (s : MB) (ρ : Rho) (Q : Fl → Rho → Prop) : Prop
  | mk (f : Fl) (r : Rho) : denB C s ρ = some (f, r) → Q f r → wB C s ρ Q
section
variable {C : Fn} {ρ : Rho} {a b c : ME} {Q : D → Rho → Prop} {i j : Nat}
theorem wE.mono {e : ME} {Q' : D → Rho → Prop} (h : wE C e ρ Q) (i : ∀ d r, Q d r → Q' d r) : wE C e ρ Q' := let ⟨d, r, e, q⟩ := h; ⟨d, r, e, i d r q⟩
theorem wB.mono {e : MB} {Q Q' : Fl → Rho → Prop} (h : wB C e ρ Q) (i : ∀ d r, Q d r → Q' d r) : wB C e ρ Q' := let ⟨d, r, e, q⟩ := h; ⟨d, r, e, i d r q⟩
theorem w_var {d : D} (h : getV ρ i = some d) (n : d.isOwn = false) (q : Q d ρ) : wE C (.var i) ρ Q := ⟨d, ρ, by rw [den, h]; simp [n], q⟩
/-- a list of the slot's own, read: frozen there -/
theorem w_varO {d : D} (h : getV ρ i = some d) (n : d.isOwn = true) (q : Q d.fz (ρ.set i (some d.fz))) : wE C (.var i) ρ Q := ⟨_, _, by rw [den, h]; simp [n], q⟩
theorem w_con {d : D} (q : Q d ρ) : wE C (.con d) ρ Q := ⟨d, ρ, by rw [den], q⟩
theorem w_bin {o : BO} (h : wE C a ρ fun x r => wE C b r fun y r2 => ∃ z, boD o x.fz y.fz = some z ∧ Q z r2) : wE C (.bin o a b) ρ Q := by
  obtain ⟨x, r, e1, y, r2, e2, z, e3, q⟩ := h
  exact ⟨z, r2, by rw [den, e1]; simp only [Option.bind_some]; rw [e2]; simp only [Option.bind_some]; rw [e3]; rfl, q⟩
theorem w_neg (h : wE C a ρ fun x r => ∃ n, x = .int n ∧ Q (.int (-n)) r) : wE C (.neg a) ρ Q := by
  obtain ⟨x, r, e1, n, rfl, q⟩ := h
  exact ⟨_, r, by rw [den, e1]; rfl, q⟩
theorem w_not (h : wE C a ρ fun x r => ∃ n, x = .bl n ∧ Q (.bl (!n)) r) : wE C (.not a) ρ Q := by
  obtain ⟨x, r, e1, n, rfl, q⟩ := h
  exact ⟨_, r, by rw [den, e1]; rfl, q⟩
theorem w_and (h : wE C a ρ fun x r => ∃ n, x = .bl n ∧ (n = true → wE C b r Q) ∧ (n = false → Q (.bl false) r)) : wE C (.and a b) ρ Q := by
  obtain ⟨x, r, e1, n, rfl, q1, q2⟩ := h
  cases n with
  | true =>
    obtain ⟨y, r2, e2, q⟩ := q1 rfl
    exact ⟨y, r2, by rw [den, e1]; exact e2, q⟩
  | false => exact ⟨_, r, by rw [den, e1]; rfl, q2 rfl⟩
theorem w_or (h : wE C a ρ fun x r => ∃ n, x = .bl n ∧ (n = true → Q (.bl true) r) ∧ (n = false → wE C b r Q)) : wE C (.or a b) ρ Q := by
  obtain ⟨x, r, e1, n, rfl, q1, q2⟩ := h
  cases n with
  | false =>
    obtain ⟨y, r2, e2, q⟩ := q2 rfl
    exact ⟨y, r2, by rw [den, e1]; exact e2, q⟩
  | true => exact ⟨_, r, by rw [den, e1]; rfl, q1 rfl⟩
theorem w_ifx (h : wE C c ρ fun x r => ∃ n, x = .bl n ∧ (n = true → wE C a r Q) ∧ (n = false → wE C b r Q)) : wE C (.ifx c a b) ρ Q := by
  obtain ⟨x, r, e1, n, rfl, q1, q2⟩ := h
  cases n with
  | false =>
    obtain ⟨y, r2, e2, q⟩ := q2 rfl
    exact ⟨y, r2, by rw [den, e1]; exact e2, q⟩
  | true =>
    obtain ⟨y, r2, e2, q⟩ := q1 rfl
    exact ⟨y, r2, by rw [den, e1]; exact e2, q⟩
theorem w_cmp {o : CO} (h : wE C a ρ fun x r => wE C b r fun y r2 => ∃ z, coD o x.fz y.fz = some z ∧ Q (.bl z) r2) : wE C (.cmp o a b) ρ Q := by
  obtain ⟨x, r, e1, y, r2, e2, z, e3, q⟩ := h
  exact ⟨_, r2, by rw [den, e1]; simp only [Option.bind_some]; rw [e2]; simp only [Option.bind_some]; rw [e3]; rfl, q⟩
theorem w_chain {o o' : CO} (h : wE C a ρ fun x r => wE C b r fun y r2 => ∃ z, coD o x.fz y.fz = some z ∧ (z = true → wE C c r2 fun w r3 => ∃ z', coD o' y.fz w.fz = some z' ∧ Q (.bl z') r3) ∧ (z = false → Q (.bl false) r2)) : wE C (.chain o o' a b c) ρ Q := by
  obtain ⟨x, r, e1, y, r2, e2, z, e3, q1, q2⟩ := h
  cases z with
  | true =>
    obtain ⟨w, r3, e4, z', e5, q⟩ := q1 rfl
    exact ⟨_, r3, by rw [den, e1]; simp only [Option.bind_some]; rw [e2]; simp only [Option.bind_some]; rw [e3]; simp only [Option.bind_some]; rw [e4]; simp only [Option.bind_some]; rw [e5]; rfl, q⟩
  | false => exact ⟨_, r2, by rw [den, e1]; simp only [Option.bind_some]; rw [e2]; simp only [Option.bind_some]; rw [e3]; rfl, q2 rfl⟩
theorem w_anil {Q : List D → Rho → Prop} (q : Q [] ρ) : wA C .nil ρ Q := ⟨_, _, by rw [denA], q⟩
theorem w_acons {r : MA} {Q : List D → Rho → Prop} (h : wE C a ρ fun x r1 => wA C r r1 fun xs r2 => Q (x :: xs) r2) : wA C (.cons a r) ρ Q := by
  obtain ⟨x, r1, e1, xs, r2, e2, q⟩ := h
  exact ⟨_, r2, by rw [denA, e1]; simp only [Option.bind_some]; rw [e2]; rfl, q⟩
theorem w_tup {as : MA} (h : wA C as ρ fun xs r => xs.length ≤ lim ∧ Q (.tup (D.fzA xs)) r) : wE C (.tup as) ρ Q := by
  obtain ⟨x, r, e1, z, q⟩ := h
  exact ⟨_, r, by rw [den, e1]; simp only [Option.bind_some]; rw [if_pos z], q⟩
theorem w_lst {as : MA} (h : wA C as ρ fun xs r => xs.length ≤ lim ∧ Q (.lst true xs) r) : wE C (.lst as) ρ Q := by
  obtain ⟨x, r, e1, z, q⟩ := h
  exact ⟨_, r, by rw [den, e1]; simp only [Option.bind_some]; rw [if_pos z], q⟩
theorem w_sub (h : wE C a ρ fun x r => wE C b r fun y r2 => ∃ z, itemD x.fz y = some z ∧ Q z r2) : wE C (.sub a b) ρ Q := by
  obtain ⟨x, r, e1, y, r2, e2, z, e3, q⟩ := h
  exact ⟨_, r2, by rw [den, e1]; simp only [Option.bind_some]; rw [e2]; simp only [Option.bind_some]; rw [e3]; rfl, q⟩
theorem w_sbv {d0 : D} (h0 : getV ρ j = some d0) (h : wE C b ρ fun y r => ∃ x z, getV r j = some x ∧ itemD x y = some z ∧ z.isOwn = false ∧ Q z r) : wE C (.sbv j b) ρ Q := by
  obtain ⟨y, r, e1, x, z, e2, e3, e4, q⟩ := h
  exact ⟨_, r, by rw [den, h0]; simp only [Option.bind_some]; rw [e1]; simp only [Option.bind_some]; rw [e2]; simp only [Option.bind_some]; rw [e3]; simp [e4], q⟩
theorem w_ono {Q : Option Int → Rho → Prop} (q : Q none ρ) : wO C .no ρ Q := ⟨_, _, by rw [denO], q⟩
theorem w_oso {Q : Option Int → Rho → Prop} (h : wE C a ρ fun x r => ∃ n, x = .int n ∧ Q (some n) r) : wO C (.so a) ρ Q := by
  obtain ⟨x, r, e1, n, rfl, q⟩ := h
  exact ⟨_, _, by rw [denO, e1]; rfl, q⟩
theorem w_slice {lo hi : MO} (h : wE C a ρ fun x r => wO C lo r fun l r2 => wO C hi r2 fun h r3 => ∃ z, sliceD x.fz l h = some z ∧ Q z r3) : wE C (.slice a lo hi) ρ Q := by
  obtain ⟨x, r, e1, l, r2, e2, h, r3, e3, z, e4, q⟩ := h
  exact ⟨_, _, by rw [den, e1]; simp only [Option.bind_some]; rw [e2]; simp only [Option.bind_some]; rw [e3]; simp only [Option.bind_some]; rw [e4]; rfl, q⟩
theorem w_blt {t : BI} (h : wE C a ρ fun x r => ∃ z, biD t x.fz = some z ∧ Q z r) : wE C (.blt t a) ρ Q := by
  obtain ⟨x, r, e1, z, e2, q⟩ := h
  exact ⟨_, _, by rw [den, e1]; simp only [Option.bind_some]; rw [e2]; rfl, q⟩
theorem w_lnv {d z : D} (h : getV ρ j = some d) (e : lenD d = some z) (q : Q z ρ) : wE C (.lnv j) ρ Q := ⟨_, _, by rw [den, h]; simp only [Option.bind_some]; rw [e]; rfl, q⟩
theorem w_isi {t : TY} (h : wE C a ρ fun x r => ∃ z, tyD t x.fz = some z ∧ Q (.bl z) r) : wE C (.isi a t) ρ Q := by
  obtain ⟨x, r, e1, z, e2, q⟩ := h
  exact ⟨_, _, by rw [den, e1]; simp only [Option.bind_some]; rw [e2]; rfl, q⟩
theorem w_call {f : Nat} {as : MA} (h : wA C as ρ fun xs r => ∃ z, C f (D.fzA xs) = some (z, []) ∧ Q z r) : wE C (.call f as) ρ Q := by
  obtain ⟨x, r, e1, z, e2, q⟩ := h
  exact ⟨_, _, by rw [den, e1]; simp only [Option.bind_some]; rw [e2]; rfl, q⟩
theorem w_ckw {f : Nat} {as : MA} {pm : List Nat} (h : wA C as ρ fun xs r => ∃ z, C f (pm.filterMap fun k => (D.fzA xs)[k]?) = some (z, []) ∧ Q z r) : wE C (.ckw f as pm) ρ Q := by
  obtain ⟨x, r, e1, z, e2, q⟩ := h
  exact ⟨_, _, by rw [den, e1]; simp only [Option.bind_some]; rw [e2]; rfl, q⟩
theorem w_cio {f : Nat} {as : MA} {d0 : D} (h0 : getV ρ j = some d0) (h : wA C as ρ fun xs r => ∃ l z l', ownL r j = some l ∧ C f (.lst true l :: D.fzA xs) = some (z, [.lst true l']) ∧ Q z (r.set j (some (.lst true l')))) : wE C (.cio f j as) ρ Q := by
  obtain ⟨x, r, e1, l, z, l', e2, e3, q⟩ := h
  exact ⟨_, _, by rw [den, h0]; simp only [Option.bind_some]; rw [e1]; simp only [Option.bind_some]; rw [e2]; simp only [Option.bind_some]; rw [e3]; rfl, q⟩
theorem w_app {l0 : List D} (h0 : ownL ρ j = some l0) (h : wE C a ρ fun x r => ∃ l, ownL r j = some l ∧ l.length < lim ∧ Q .non (r.set j (some (.lst true (l ++ [x]))))) : wE C (.app j a) ρ Q := by
  obtain ⟨x, r, e1, l, e2, z, q⟩ := h
  exact ⟨_, _, by rw [den, h0]; simp only [Option.bind_some]; rw [e1]; simp only [Option.bind_some]; rw [e2]; simp only [Option.bind_some]; rw [if_pos z], q⟩
theorem w_rvl (h : wE C a ρ fun x r => ∃ o l, x.fz = .lst o l ∧ Q (.lst true l.reverse) r) : wE C (.rvl a) ρ Q := by
  obtain ⟨x, r, e1, o, l, e2, q⟩ := h
  exact ⟨_, _, by rw [den, e1]; simp only [Option.bind_some]; rw [e2], q⟩
theorem w_lrg {t : Bool} {m : MR} (h : wR C m ρ fun i j r => (j - i).toNat ≤ lim ∧ Q (if t then .tup (intsD i (j - i).toNat) else .lst true (intsD i (j - i).toNat)) r) : wE C (.lrg t m) ρ Q := by
  obtain ⟨i, j, r, e1, z, q⟩ := h
  refine ⟨_, _, ?_, q⟩
  rw [den, e1]
  simp only [Option.bind_some]
  rw [if_pos z]
  cases t <;> rfl
theorem w_to {Q : Int → Int → Rho → Prop} (h : wE C a ρ fun x r => ∃ n, x = .int n ∧ small62 n = true ∧ Q 0 n r) : wR C (.to a) ρ Q := by
  obtain ⟨x, r, e1, n, rfl, z, q⟩ := h
  exact ⟨_, _, _, by rw [denR, e1]; simp [z], q⟩
theorem w_ft {Q : Int → Int → Rho → Prop} (h : wE C a ρ fun x r => wE C b r fun y r2 => ∃ n m, x = .int n ∧ y = .int m ∧ small62 n = true ∧ small62 m = true ∧ Q n m r2) : wR C (.ft a b) ρ Q := by
  obtain ⟨x, r, e1, y, r2, e2, n, m, rfl, rfl, z, z2, q⟩ := h
  exact ⟨_, _, _, by rw [denR, e1]; simp only [Option.bind_some]; rw [e2]; simp [z, z2], q⟩
theorem w_it {Q : List D → Rho → Prop} (h : wE C a ρ fun x r => ∃ xs, itemsD x.fz = some xs ∧ Q xs r) : wI C (.it a) ρ Q := by
  obtain ⟨x, r, e1, z, e2, q⟩ := h
  exact ⟨_, _, by rw [denI, e1]; simp only [Option.bind_some]; rw [e2]; rfl, q⟩
theorem w_rng {m : MR} {Q : List D → Rho → Prop} (h : wR C m ρ fun i j r => Q (intsD i (j - i).toNat) r) : wI C (.rng m) ρ Q := by
  obtain ⟨i, j, r, e1, q⟩ := h
  exact ⟨_, _, by rw [denI, e1]; rfl, q⟩
theorem w_enu {Q : List D → Rho → Prop} (h : wE C a ρ fun x r => ∃ o xs, x.fz = .lst o xs ∧ Q (enumD xs) r) : wI C (.enu a) ρ Q := by
  obtain ⟨x, r, e1, o, z, e2, q⟩ := h
  exact ⟨_, _, by rw [denI, e1]; simp only [Option.bind_some]; rw [e2], q⟩
/-! a comprehension: its loop -/
inductive wC (own : List Nat) (tg : D → Rho → Option Rho) (c : Rho → Option (D × Rho)) (elt : Rho → Option (D × Rho)) (ds : List D) (ρ : Rho) (Q : List D → Rho → Prop) : Prop
  | mk (xs : List D) (r : Rho) : compD own tg c elt ds ρ = some (xs, r) → Q xs r → wC own tg c elt ds ρ Q
theorem w_comp {own : List Nat} {tg : MT} {it : MI} {c : MO} {e : ME} (h : wI C it ρ fun ds r => ds.length ≤ lim ∧ wC own (denT C tg) (denC C c) (den C e) ds r fun xs r2 => Q (.lst true xs) r2) : wE C (.comp own tg it c e) ρ Q := by
  obtain ⟨ds, r, e1, z, xs, r2, e2, q⟩ := h
  exact ⟨_, _, by rw [den, e1]; simp only [Option.bind_some]; rw [if_pos z, e2]; rfl, q⟩
/-- every item gives one -/
theorem wC_map {own : List Nat} {tg : MT} {e : ME} {Q : List D → Rho → Prop} {ds : List D} (g : D → D) (h : ∀ d ∈ ds, wT C tg d (wipeR ρ own) fun r => wE C e r fun x r2 => x = g d ∧ wipeR r2 own = wipeR ρ own) (q : Q (ds.map g) (wipeR ρ own)) : wC own (denT C tg) (denC C .no) (den C e) ds ρ Q := by
  have : ∀ ds : List D, (∀ d ∈ ds, wT C tg d (wipeR ρ own) fun r => wE C e r fun x r2 => x = g d ∧ wipeR r2 own = wipeR ρ own) → ∀ ρ1, wipeR ρ1 own = wipeR ρ own → compD own (denT C tg) (denC C .no) (den C e) ds ρ1 = some (ds.map g, wipeR ρ own) := by
    intro ds
    induction ds with
    | nil => intro _ ρ1 h1; rw [compD, h1]; rfl
    | cons d ds ih =>
      intro hd ρ1 h1
      obtain ⟨r, e1, x, r2, e2, rfl, e3⟩ := hd d List.mem_cons_self
      rw [compD, h1, e1]
      simp only [Option.bind_some]
      rw [show denC C MO.no r = some (.bl true, r) from by rw [denC]]
      simp only [Option.bind_some]
      rw [e2]
      simp only [Option.bind_some]
      rw [ih (fun d m => hd d (List.mem_cons_of_mem _ m)) r2 e3]
      rfl
  exact ⟨_, _, this ds h ρ rfl, q⟩
/-- .. some alone -/
theorem wC_filter {own : List Nat} {tg : MT} {e c : ME} {Q : List D → Rho → Prop} {ds : List D} (p : D → Bool) (g : D → D) (h : ∀ d ∈ ds, wT C tg d (wipeR ρ own) fun r => wE C c r fun b r1 => b = .bl (p d) ∧ (p d = false → wipeR r1 own = wipeR ρ own) ∧ (p d = true → wE C e r1 fun x r2 => x = g d ∧ wipeR r2 own = wipeR ρ own))
    (q : Q ((ds.filter p).map g) (wipeR ρ own)) : wC own (denT C tg) (denC C (.so c)) (den C e) ds ρ Q := by
  have : ∀ ds : List D, (∀ d ∈ ds, wT C tg d (wipeR ρ own) fun r => wE C c r fun b r1 => b = .bl (p d) ∧ (p d = false → wipeR r1 own = wipeR ρ own) ∧ (p d = true → wE C e r1 fun x r2 => x = g d ∧ wipeR r2 own = wipeR ρ own)) → ∀ ρ1, wipeR ρ1 own = wipeR ρ own →
      compD own (denT C tg) (denC C (.so c)) (den C e) ds ρ1 = some ((ds.filter p).map g, wipeR ρ own) := by
    intro ds
    induction ds with
    | nil => intro _ ρ1 h1; rw [compD, h1]; rfl
    | cons d ds ih =>
      intro hd ρ1 h1
      obtain ⟨r, e1, b, r1, e2, rfl, n, y⟩ := hd d List.mem_cons_self
      rw [compD, h1, e1]
      simp only [Option.bind_some]
      rw [show denC C (.so c) r = den C c r from by rw [denC], e2]
      simp only [Option.bind_some]
      have ih' := ih fun d m => hd d (List.mem_cons_of_mem _ m)
      cases hp : p d with
      | false =>
        rw [List.filter_cons_of_neg (by rw [hp]; decide)]
        exact ih' r1 (n hp)
      | true =>
        obtain ⟨x, r2, e3, rfl, e4⟩ := y hp
        rw [List.filter_cons_of_pos hp]
        simp only
        rw [e3]
        simp only [Option.bind_some]
        rw [ih' r2 e4]
        rfl
  exact ⟨_, _, this ds h ρ rfl, q⟩
/-- with a state that goes on -/
theorem wC_inv {own : List Nat} {tg : MT} {e : ME} {Q : List D → Rho → Prop} {ds : List D} (Inv : Nat → List D → Rho → Prop) (h0 : Inv 0 [] (wipeR ρ own))
    (h : ∀ (k : Nat) (d : D) (xs : List D) (r : Rho), ds[k]? = some d → Inv k xs r → wT C tg d r fun r1 => wE C e r1 fun x r2 => Inv (k + 1) (xs ++ [x]) (wipeR r2 own)) (q : ∀ xs r, Inv ds.length xs r → Q xs r) : wC own (denT C tg) (denC C .no) (den C e) ds ρ Q := by
  have : ∀ (n k : Nat) (xs : List D) (r : Rho), k + n = ds.length → Inv k xs (wipeR r own) → ∃ ys r2, compD own (denT C tg) (denC C .no) (den C e) (ds.drop k) r = some (ys, r2) ∧ Inv ds.length (xs ++ ys) r2 := by
    intro n
    induction n with
    | zero =>
      intro k xs r hk hi
      have : k = ds.length := by omega
      subst this
      rw [List.drop_length, compD]
      exact ⟨[], _, rfl, by rw [List.append_nil]; exact hi⟩
    | succ n ih =>
      intro k xs r hk hi
      have hlt : k < ds.length := by omega
      rw [List.drop_eq_getElem_cons hlt, compD]
      obtain ⟨r1, e1, x, r2, e2, hi2⟩ := h k ds[k] xs _ (by simp [hlt]) hi
      obtain ⟨ys, r3, e3, hi3⟩ := ih (k + 1) (xs ++ [x]) r2 (by omega) hi2
      refine ⟨x :: ys, r3, ?_, by rw [List.append_cons]; exact hi3⟩
      rw [e1]
      simp only [Option.bind_some]
      rw [show denC C MO.no r1 = some (.bl true, r1) from by rw [denC]]
      simp only [Option.bind_some]
      rw [e2]
      simp only [Option.bind_some]
      rw [e3]
      rfl
  obtain ⟨ys, r2, e, hi⟩ := this ds.length 0 [] ρ (by omega) h0
  exact ⟨ys, r2, by simpa using e, q _ _ hi⟩
/-! targets -/
theorem w_nm {d : D} {Q : Rho → Prop} (h : i < ρ.length) (q : Q (ρ.set i (some d))) : wT C (.nm i) d ρ Q := ⟨_, by rw [denT, if_pos h], q⟩
theorem w_tp {ts : MTs} {ds : List D} {Q : Rho → Prop} (h : wTs C ts ds ρ Q) : wT C (.tp ts) (.tup ds) ρ Q := let ⟨r, e, q⟩ := h; ⟨r, by rw [denT]; exact e, q⟩
theorem w_tnil {Q : Rho → Prop} (q : Q ρ) : wTs C .nil [] ρ Q := ⟨_, by rw [denTs], q⟩
theorem w_tcons {t : MT} {ts : MTs} {d : D} {ds : List D} {Q : Rho → Prop} (h : wT C t d ρ fun r => wTs C ts ds r Q) : wTs C (.cons t ts) (d :: ds) ρ Q := by
  obtain ⟨r, e1, r2, e2, q⟩ := h
  exact ⟨r2, by rw [denTs, e1]; exact e2, q⟩
theorem w_st {d d0 : D} {Q : Rho → Prop} (h0 : getV ρ j = some d0) (h : wE C a ρ fun y r => ∃ l k n, ownL r j = some l ∧ y = .int k ∧ ixN l.length k = some n ∧ Q (r.set j (some (.lst true (l.set n d))))) : wT C (.st j a) d ρ Q := by
  obtain ⟨y, r, e1, l, k, n, e2, rfl, e3, q⟩ := h
  exact ⟨_, by rw [denT, h0]; simp only [Option.bind_some]; rw [e1]; simp only [Option.bind_some]; rw [e2]; simp only [Option.bind_some]; rw [e3]; rfl, q⟩
/-! statements -/
variable {QS : Fl → Rho → Prop}
theorem w_asg {t : MT} (h : wE C a ρ fun x r => wT C t x r fun r2 => QS .nx r2) : wS C (.asg t a) ρ QS := by
  obtain ⟨x, r, e1, r2, e2, q⟩ := h
  exact ⟨_, _, by rw [denS, e1]; simp only [Option.bind_some]; rw [e2]; rfl, q⟩
theorem w_par {ts : MTs} {as : MA} (h : wA C as ρ fun xs r => xs.length ≤ lim ∧ wTs C ts xs r fun r2 => QS .nx r2) : wS C (.par ts as) ρ QS := by
  obtain ⟨x, r, e1, z, r2, e2, q⟩ := h
  exact ⟨_, _, by rw [denS, e1]; simp only [Option.bind_some]; rw [if_pos z, e2]; rfl, q⟩
theorem w_exp (h : wE C a ρ fun _ r => QS .nx r) : wS C (.exp a) ρ QS := by
  obtain ⟨x, r, e1, q⟩ := h
  exact ⟨_, _, by rw [denS, e1]; rfl, q⟩
theorem w_ife {s t : MB} (h : wE C c ρ fun x r => ∃ n, x = .bl n ∧ (n = true → wB C s r QS) ∧ (n = false → wB C t r QS)) : wS C (.ife c s t) ρ QS := by
  obtain ⟨x, r, e1, n, rfl, q1, q2⟩ := h
  cases n with
  | true =>
    obtain ⟨f, r2, e2, q⟩ := q1 rfl
    exact ⟨f, r2, by rw [denS, e1]; exact e2, q⟩
  | false =>
    obtain ⟨f, r2, e2, q⟩ := q2 rfl
    exact ⟨f, r2, by rw [denS, e1]; exact e2, q⟩
theorem w_ret (h : wE C a ρ fun x r => QS (.rt x) r) : wS C (.ret a) ρ QS := by
  obtain ⟨x, r, e1, q⟩ := h
  exact ⟨_, _, by rw [denS, e1]; rfl, q⟩
theorem w_retv {d : D} (h : getV ρ j = some d) (q : QS (.rt d) (ρ.set j none)) : wS C (.retv j) ρ QS := ⟨_, _, by rw [denS, h]; rfl, q⟩
theorem w_brk (q : QS .bk ρ) : wS C .brk ρ QS := ⟨_, _, by rw [denS], q⟩
theorem w_cnt (q : QS .ct ρ) : wS C .cnt ρ QS := ⟨_, _, by rw [denS], q⟩
theorem w_bnil (q : QS .nx ρ) : wB C .nil ρ QS := ⟨_, _, by rw [denB], q⟩
theorem w_bcons {s : MS} {r : MB} (h : wS C s ρ fun f r1 => match f with
    | .nx => wB C r r1 QS
    | f => QS f r1) : wB C (.cons s r) ρ QS := by
  obtain ⟨f, r1, e1, q⟩ := h
  cases f with
  | nx =>
    obtain ⟨f2, r2, e2, q⟩ := q
    exact ⟨f2, r2, by rw [denB, e1]; exact e2, q⟩
  | bk => exact ⟨_, _, by rw [denB, e1]; rfl, q⟩
  | ct => exact ⟨_, _, by rw [denB, e1]; rfl, q⟩
  | rt d => exact ⟨_, _, by rw [denB, e1]; rfl, q⟩
/-- a for: Inv by the turn; each turn goes on, or it returns -/
theorem w_for {t : MT} {it : MI} {b : MB} (h : wI C it ρ fun ds r0 => ∃ Inv : Nat → Rho → Prop, Inv 0 r0 ∧
    (∀ (k : Nat) (d : D) (r : Rho), ds[k]? = some d → Inv k r → wT C t d (mask r0 r) fun r1 => wB C b r1 fun f r2 => match f with
      | .nx => Inv (k + 1) r2
      | .ct => Inv (k + 1) r2
      | .bk => QS .nx (mask r0 r2)
      | .rt d => QS (.rt d) r2) ∧ ∀ r, Inv ds.length r → QS .nx (mask r0 r)) : wS C (.for t it b) ρ QS := by
  obtain ⟨ds, r0, e1, Inv, i0, hs, hd⟩ := h
  have : ∀ (n k : Nat) (r : Rho), k + n = ds.length → Inv k r → ∃ f r2, forD r0 (fun d r => (denT C t d r).bind fun r1 => denB C b r1) (ds.drop k) r = some (f, r2) ∧ QS f r2 := by
    intro n
    induction n with
    | zero =>
      intro k r hk hi
      have : k = ds.length := by omega
      subst this
      rw [List.drop_length, forD]
      exact ⟨_, _, rfl, hd r hi⟩
    | succ n ih =>
      intro k r hk hi
      have hlt : k < ds.length := by omega
      rw [List.drop_eq_getElem_cons hlt, forD]
      obtain ⟨r1, e1, f, r2, e2, q⟩ := hs k ds[k] r (by simp [hlt]) hi
      rw [e1]
      simp only [Option.bind_some]
      rw [e2]
      simp only [Option.bind_some]
      cases f with
      | nx => exact ih (k + 1) r2 (by omega) q
      | ct => exact ih (k + 1) r2 (by omega) q
      | bk => exact ⟨_, _, rfl, q⟩
      | rt d => exact ⟨_, _, rfl, q⟩
  obtain ⟨f, r2, e2, q⟩ := this ds.length 0 r0 (by omega) i0
  exact ⟨f, r2, by rw [denS, e1]; simpa using e2, q⟩
/-- a while: Inv by a measure below the fuel -/
theorem w_whl {c : ME} {b : MB} (Inv : Nat → Rho → Prop) (h0 : ∃ m, m < fuel ∧ Inv m ρ)
    (h : ∀ (m : Nat) (r : Rho), Inv m r → wE C c (mask ρ r) fun x r1 => ∃ n, x = .bl n ∧ (n = false → QS .nx (mask ρ r1)) ∧ (n = true → wB C b r1 fun f r2 => match f with
      | .nx => ∃ m', m' < m ∧ Inv m' r2
      | .ct => ∃ m', m' < m ∧ Inv m' r2
      | .bk => QS .nx (mask ρ r2)
      | .rt d => QS (.rt d) r2)) : wS C (.whl c b) ρ QS := by
  have : ∀ (n m : Nat) (r : Rho), m < n → Inv m r → ∃ f r2, whlD ρ (den C c) (denB C b) n r = some (f, r2) ∧ QS f r2 := by
    intro n
    induction n with
    | zero => intro m r hm; omega
    | succ n ih =>
      intro m r hm hi
      obtain ⟨x, r1, e1, k, rfl, q1, q2⟩ := h m r hi
      rw [whlD, e1]
      simp only [Option.bind_some]
      cases k with
      | false => exact ⟨_, _, rfl, q1 rfl⟩
      | true =>
        obtain ⟨f, r2, e2, q⟩ := q2 rfl
        simp only
        rw [e2]
        simp only [Option.bind_some]
        cases f with
        | nx => exact let ⟨m', hm', q⟩ := q; ih m' r2 (by omega) q
        | ct => exact let ⟨m', hm', q⟩ := q; ih m' r2 (by omega) q
        | bk => exact ⟨_, _, rfl, q⟩
        | rt d => exact ⟨_, _, rfl, q⟩
  obtain ⟨m, hm, hi⟩ := h0
  obtain ⟨f, r2, e2, q⟩ := this fuel m ρ hm hi
  exact ⟨f, r2, by rw [denS]; exact e2, q⟩
/-! a def -/
theorem w_run {F : MF} {ds : List D} {z : D} (h1 : ds.length = F.ps) (h2 : F.ps ≤ F.ns) (hio : F.io = false) (h : wB C F.body (ds.map some ++ List.replicate (F.ns - F.ps) none) fun f _ => match f with
    | .rt d => d = z
    | .nx => .non = z
    | _ => False) : runF C F ds = some (z, []) := by
  obtain ⟨f, r, e, q⟩ := h
  unfold runF
  rw [if_pos ⟨h1, h2⟩, e]
  simp only [Option.bind_some]
  cases f with
  | rt d => cases q; rw [hio]; rfl
  | nx => cases q; rw [hio]; rfl
  | bk => exact q.elim
  | ct => exact q.elim
/-- a def whose first is handed in and out -/
theorem w_runio {F : MF} {ds : List D} {Q : D → D → Prop} (h1 : ds.length = F.ps) (h2 : F.ps ≤ F.ns) (hio : F.io = true) (h : wB C F.body (ds.map some ++ List.replicate (F.ns - F.ps) none) fun f r => match f with
    | .rt d => ∃ x, r[0]? = some (some x) ∧ Q d x
    | .nx => ∃ x, r[0]? = some (some x) ∧ Q .non x
    | _ => False) : ∃ d x, runF C F ds = some (d, [x]) ∧ Q d x := by
  obtain ⟨f, r, e, q⟩ := h
  unfold runF
  rw [if_pos ⟨h1, h2⟩, e]
  simp only [Option.bind_some]
  cases f with
  | rt d =>
    obtain ⟨x, e2, q⟩ := q
    exact ⟨d, x, by rw [hio]; simp [e2], q⟩
  | nx =>
    obtain ⟨x, e2, q⟩ := q
    exact ⟨_, x, by rw [hio]; simp [e2], q⟩
  | bk => exact q.elim
  | ct => exact q.elim
theorem callN_eq {fs : List MF} {k f : Nat} {F : MF} (h : fs[f]? = some F) (ds : List D) : callN fs (k + 1) f ds = runF (callN fs k) F ds := by rw [callN, h]
end
/-! values of operations -/
theorem o_add (a b : Int) : boD .add (.int a) (.int b) = some (.int (a + b)) := rfl
theorem o_sub (a b : Int) : boD .sub (.int a) (.int b) = some (.int (a - b)) := rfl
theorem o_mul {a b : Int} (h : a.natAbs.log2 + b.natAbs.log2 < 1000000) : boD .mul (.int a) (.int b) = some (.int (a * b)) := if_pos h
theorem o_mod {a b : Int} (h : 0 < b) : boD .mod (.int a) (.int b) = some (.int (a % b)) := if_pos h
theorem o_fdiv {a b : Int} (h : 0 < b ∧ b.natAbs.log2 < 9000) : boD .fdiv (.int a) (.int b) = some (.int (a / b)) := if_pos h
end Rr

namespace Rr
open PySem PySem.Spec L2

/-! ### rows of whole numbers -/
abbrev iA (xs : List Int) : List D := xs.map D.int
abbrev iT (xs : List Int) : D := .tup (xs.map D.int)
theorem fzA_i (xs : List Int) : D.fzA (iA xs) = iA xs := by
  rw [D.fzA_map, iA, List.map_map]
  rfl
theorem pyA_i (xs : List Int) : D.pyA (iA xs) = xs.map PyData.int := by
  rw [D.pyA_map, iA, List.map_map]
  exact List.map_congr_left fun a _ => by show D.py (.int a) = _; rw [D.py]
theorem ok_i (x : Int) : D.ok (.int x) = true := by simp [D.ok]
theorem okA_i : ∀ xs : List Int, D.okA (iA xs) = true
  | [] => by rw [iA, List.map_nil, D.okA]
  | x :: xs => by rw [iA, List.map_cons, D.okA, ok_i, okA_i xs]; rfl
theorem canA_i : ∀ xs : List Int, PyData.canLayAll0 (xs.map PyData.int) = true
  | [] => by rw [List.map_nil, PyData.canLayAll0]
  | x :: xs => by rw [List.map_cons, PyData.canLayAll0, PyData.canLay0, canA_i xs]; rfl
theorem depA_i : ∀ xs : List Int, PyData.depthAll (xs.map PyData.int) = 0
  | [] => by rw [List.map_nil, PyData.depthAll]
  | x :: xs => by rw [List.map_cons, PyData.depthAll, PyData.depth, depA_i xs]; rfl
theorem eqvA_i : ∀ xs ys : List Int, PyData.eqvAll (xs.map PyData.int) (ys.map PyData.int) = decide (xs = ys)
  | [], [] => by simp [PyData.eqvAll]
  | [], _ :: _ => by simp [PyData.eqvAll]
  | _ :: _, [] => by simp [PyData.eqvAll]
  | x :: xs, y :: ys => by
    rw [List.map_cons, List.map_cons, PyData.eqvAll, eqvA_i xs ys, PyData.eqv]
    by_cases h : x = y <;> simp [h]
theorem shp_tup (xs : List Int) : shp (iT xs) = true := by
  unfold shp SeqAt.shaped
  rw [D.ok, okA_i, D.py, pyA_i, PyData.canLay0, canA_i, PyData.depth, depA_i]
  rfl
theorem shp_lst (o : Bool) (xs : List Int) : shp (.lst o (iA xs)) = true := by
  unfold shp SeqAt.shaped
  rw [D.ok, okA_i, D.py, pyA_i, PyData.canLay0, canA_i, PyData.depth, depA_i]
  rfl
theorem eq_tup (xs ys : List Int) : eqB (iT xs) (iT ys) = some (decide (xs = ys)) := by
  show (if shp (iT xs) && shp (iT ys) then some (PyData.eqv (iT xs).py (iT ys).py) else none) = _
  rw [shp_tup, shp_tup, D.py, D.py, pyA_i, pyA_i, PyData.eqv, eqvA_i]
  rfl
theorem eq_lst (o o' : Bool) (xs ys : List Int) : eqB (.lst o (iA xs)) (.lst o' (iA ys)) = some (decide (xs = ys)) := by
  show (if shp (.lst o (iA xs)) && shp (.lst o' (iA ys)) then some (PyData.eqv (D.lst o (iA xs)).py (D.lst o' (iA ys)).py) else none) = _
  rw [shp_lst, shp_lst, D.py, D.py, pyA_i, pyA_i, PyData.eqv, eqvA_i]
  rfl
/-! repr -/
theorem int_shown {i : Int} {k : Nat} (hk : 0 < k) (h : i.natAbs < 10 ^ k) : (PyData.int i).shown.length ≤ k + 1 := by
  rw [PyData.shown]
  have hp : ∀ n : Nat, n < 10 ^ k → (Str.ofString (toString n)).length ≤ k := fun n hn => by
    have := PyProof.Rows.toString_length_le (v := (n : Int)) (Int.natCast_nonneg n) hk (by exact_mod_cast hn)
    exact this
  cases i with
  | ofNat n => exact Nat.le_succ_of_le (hp n h)
  | negSucc n =>
    show (Str.ofString ("-" ++ Nat.repr (n + 1))).length ≤ k + 1
    have h2 := hp (n + 1) h
    rw [ofString_length] at h2 ⊢
    have h2 : (Nat.repr (n + 1)).length ≤ k := h2
    rw [String.length_append]
    have h3 : ("-" : String).length = 1 := rfl
    omega
theorem shownA_i : ∀ xs : List Int, PyData.shownAll (xs.map PyData.int) = xs.map fun i => (PyData.int i).shown
  | [] => by rw [List.map_nil, PyData.shownAll, List.map_nil]
  | x :: xs => by rw [List.map_cons, PyData.shownAll, shownA_i xs, List.map_cons]
theorem showA_i : ∀ xs : List Int, (∀ i ∈ xs, i.natAbs.log2 < 1920) → PyData.showableAll (xs.map PyData.int) = true
  | [], _ => by rw [List.map_nil, PyData.showableAll]
  | x :: xs, h => by
    rw [List.map_cons, PyData.showableAll, PyData.showable, showA_i xs fun i m => h i (List.mem_cons_of_mem _ m)]
    simp [h x List.mem_cons_self]
theorem piled_le (b : Nat) : ∀ ts : List Str, (∀ t ∈ ts, t.length ≤ b) → piled ts ≤ (b + 2) * ts.length
  | [], _ => Nat.zero_le _
  | t :: ts, h => by
    have h1 := h t List.mem_cons_self
    have h2 := piled_le b ts fun x m => h x (List.mem_cons_of_mem _ m)
    show t.length + 2 + piled ts ≤ _
    rw [List.length_cons, Nat.mul_succ]
    omega
theorem tup_len (ts : List Str) (b : Nat) (h : ∀ t ∈ ts, t.length ≤ b) : (tupleText ts).length ≤ (b + 2) * ts.length + 3 := by
  have hp := piled_le b ts h
  have hj : (Str.join ", " ts).length ≤ piled ts := by
    cases ts with
    | nil => exact Nat.zero_le _
    | cons t ts =>
      have := join_length_add (t :: ts) (by simp)
      omega
  unfold tupleText
  rw [strLen_append, strLen_append]
  have h1 : (("(" : String) : Str).length = 1 := rfl
  have h2 : ((if ts.length == 1 then ",)" else ")" : String) : Str).length ≤ 2 := by split <;> decide
  have h3 : (Str.ofString "(").length = 1 := rfl
  omega
/-- small enough to be shown -/
def Sm (i : Int) : Prop := i.natAbs < 10 ^ 60
theorem Sm.log {i : Int} (h : Sm i) : i.natAbs.log2 < 1920 := by
  by_cases hz : i.natAbs = 0
  · rw [hz]; decide
  · refine (Nat.log2_lt hz).mpr (Nat.lt_of_lt_of_le h ?_)
    exact Nat.le_trans (by decide : 10 ^ 60 ≤ 2 ^ 200) (Nat.pow_le_pow_right (by decide) (by decide))
theorem repr_int {i : Int} (h : Sm i) : biD .repr (.int i) = some (.str (PyData.int i).shown) := by
  have h2 := int_shown (k := 60) (by decide) h
  have h3 := h.log
  show (if (D.int i).ok && (D.int i).py.showable && decide ((D.int i).py.depth ≤ 64) && decide ((D.int i).py.shown.length ≤ lim) then some (D.str (D.int i).py.shown) else none) = _
  rw [ok_i, D.py, PyData.showable, PyData.depth]
  rw [if_pos]
  simp only [Bool.true_and, Bool.and_eq_true, decide_eq_true_eq]
  refine ⟨⟨h3, by decide⟩, ?_⟩
  have : lim = 1000000 := rfl
  omega
theorem repr_tup {xs : List Int} (hl : xs.length ≤ 1000) (h : ∀ i ∈ xs, Sm i) : biD .repr (iT xs) = some (.str (D.py (iT xs)).shown) := by
  show (if (iT xs).ok && (iT xs).py.showable && decide ((iT xs).py.depth ≤ 64) && decide ((iT xs).py.shown.length ≤ lim) then some (D.str (iT xs).py.shown) else none) = _
  have h1 : (iT xs).ok = true := by rw [D.ok, okA_i]
  have h2 : (iT xs).py = .tuple (xs.map PyData.int) := by rw [D.py, pyA_i]
  rw [h1, h2, PyData.showable, showA_i xs fun i m => (h i m).log, PyData.depth, depA_i, PyData.shown, shownA_i]
  have h3 := tup_len (xs.map fun i => (PyData.int i).shown) 61 fun t m => by
    obtain ⟨i, hi, rfl⟩ := List.mem_map.mp m
    exact int_shown (k := 60) (by decide) (h i hi)
  rw [List.length_map] at h3
  have : lim = 1000000 := rfl
  rw [if_pos]
  simp only [Bool.true_and, Bool.and_eq_true, decide_eq_true_eq]
  refine ⟨by decide, ?_⟩
  omega
/-! positions -/
theorem ixN_nat {n k : Nat} (h : k < n) : ixN n (k : Int) = some k := by
  unfold ixN
  rw [if_pos (Int.natCast_nonneg k), if_pos (by omega)]
  rfl
theorem atI_nat' {α : Type} {xs : List α} {k : Nat} (h : k < xs.length) : atI xs (k : Int) = some xs[k] := by
  unfold atI
  rw [ixN_nat h]
  simp [h]
theorem item_i {d : D} {xs : List Int} {i : Int} (hd : itemsD d = some (iA xs)) (h0 : 0 ≤ i) (h : i < xs.length) : itemD d (.int i) = some (.int (xs[i.toNat]'(by omega))) := by
  have e : atI (iA xs) i = some (.int (xs[i.toNat]'(by omega))) := by
    have hh := atI_nat' (xs := iA xs) (k := i.toNat) (by rw [List.length_map]; omega)
    rw [Int.toNat_of_nonneg h0] at hh
    rw [hh, List.getElem_map]
  cases d with
  | lst o ys => cases hd; exact e
  | tup ys => cases hd; exact e
  | _ => cases hd
section
variable {C : Fn} {ρ : Rho} {Q : D → Rho → Prop}
theorem w_cmb {o : CO} {j : Nat} {i : Int} {x d : D} {k : Bool} (h : getV ρ j = some x) (n : notTup x = true) (h2 : itemD x (.int i) = some d) (h3 : coD o d.fz (.lst false []) = some k) (q : Q (.bl k) ρ) : wE C (.cmb o j i) ρ Q :=
  ⟨_, _, by rw [den, h]; simp only [Option.bind_some]; rw [if_pos n, h2]; simp only [Option.bind_some]; rw [h3]; rfl, q⟩
theorem w_popp {j k : Nat} {i : Int} {xs ys : List D} {d : D} (h : ownL ρ j = some xs) (h1 : ixN xs.length i = some k) (h2 : xs[k]? = some (.lst true ys)) (h3 : ys[ys.length - 1]? = some d) (n : d.isOwn = false) (q : Q d (ρ.set j (some (.lst true (xs.set k (.lst true ys.dropLast)))))) : wE C (.popp j i) ρ Q :=
  ⟨_, _, by rw [den, h]; simp only [Option.bind_some]; rw [h1]; simp only [Option.bind_some]; rw [h2]; simp only; rw [h3]; simp [n], q⟩
end
/-! ### the bag of drawn numbers -/
structure Bag (x : D) : Prop where
  ex : ∃ (cs : List Int) (b m : Int), x = .lst true [.lst true (iA cs), .int b, .int m] ∧ cs.length ≤ 63 ∧ (∀ c ∈ cs, 0 ≤ c ∧ c < 10 ^ 40) ∧ 0 ≤ b ∧ b < 10 ^ 40 ∧ 0 ≤ m ∧ m < 2147483647
theorem log_lt {i : Int} {k : Nat} (h0 : 0 ≤ i) (h : i < 2 ^ k) (hk : 0 < k) : i.natAbs.log2 < k := by
  by_cases hz : i.natAbs = 0
  · rw [hz]; exact hk
  · refine (Nat.log2_lt hz).mpr ?_
    have e : ((i.natAbs : Nat) : Int) = i := Int.natAbs_of_nonneg h0
    have : ((i.natAbs : Nat) : Int) < ((2 ^ k : Nat) : Int) := by rw [e]; push_cast; exact h
    omega
theorem log_abs {i : Int} {k : Nat} (h0 : -(2 ^ k) < i) (h : i < 2 ^ k) (hk : 0 < k) : i.natAbs.log2 < k := by
  by_cases hz : i.natAbs = 0
  · rw [hz]; exact hk
  · refine (Nat.log2_lt hz).mpr ?_
    have : ((i.natAbs : Nat) : Int) < ((2 ^ k : Nat) : Int) := by push_cast; omega
    omega
/-! small openings -/
theorem ex_some {α : Type} {x : Option α} {z : α} {P : α → Prop} (h : x = some z) (p : P z) : ∃ z, x = some z ∧ P z := ⟨z, h, p⟩
theorem ex_int {a : Int} {P : Int → Prop} (p : P a) : ∃ n, D.int a = .int n ∧ P n := ⟨a, rfl, p⟩
theorem ex_lst {o : Bool} {xs : List D} {P : Bool → List D → Prop} (p : P o xs) : ∃ o' ys, D.lst o xs = .lst o' ys ∧ P o' ys := ⟨o, xs, rfl, p⟩
theorem ex_bl {b : Bool} {P : Bool → Prop} (p : P b) : ∃ n, D.bl b = .bl n ∧ P n := ⟨b, rfl, p⟩
theorem ex_dec {p : Prop} [Decidable p] {A B : Prop} (h1 : p → A) (h2 : ¬p → B) : ∃ n, D.bl (decide p) = .bl n ∧ (n = true → A) ∧ (n = false → B) :=
  ⟨decide p, rfl, fun h => h1 (of_decide_eq_true h), fun h => h2 (of_decide_eq_false h)⟩
theorem ex_yes {b : Bool} {A B : Prop} (hb : b = true) (h1 : A) : ∃ n, D.bl b = .bl n ∧ (n = true → A) ∧ (n = false → B) :=
  ⟨b, rfl, fun _ => h1, fun h => by rw [hb] at h; cases h⟩
theorem ex_not {b : Bool} {A B : Prop} (hb : b = false) (h1 : B) : ∃ n, D.bl b = .bl n ∧ (n = true → A) ∧ (n = false → B) :=
  ⟨b, rfl, fun h => absurd (hb.symm.trans h) (by decide), fun _ => h1⟩
theorem ex_num {i : Int} {P : Int → Prop} (h : small62 i = true) (p : P i) : ∃ n, D.int i = .int n ∧ small62 n = true ∧ P n := ⟨i, rfl, h, p⟩
theorem sm62 {i : Int} (h : -4611686018427387904 ≤ i ∧ i < 4611686018427387904) : small62 i = true := decide_eq_true h
/-- a statement that goes on, what is known behind it -/
theorem w_then {C : Fn} {ρ : Rho} {s : MS} {r : MB} {QS : Fl → Rho → Prop} (P : Rho → Prop) (h : wS C s ρ fun f r1 => f = .nx ∧ P r1) (h2 : ∀ r1, P r1 → wB C r r1 QS) : wB C (.cons s r) ρ QS := by
  obtain ⟨f, r1, e, rfl, p⟩ := h
  exact w_bcons ⟨.nx, r1, e, h2 r1 p⟩
theorem log_s {a : Int} (h1 : -(10 ^ 100) < a) (h2 : a < 10 ^ 100) : a.natAbs.log2 < 400 := by
  refine log_abs (k := 400) ?_ ?_ (by decide)
  · exact Int.lt_trans (by decide) h1
  · exact Int.lt_trans h2 (by decide)
theorem o_mulS {a b : Int} (h1 : -(10 ^ 100) < a) (h2 : a < 10 ^ 100) (h3 : -(10 ^ 100) < b) (h4 : b < 10 ^ 100) : boD .mul (.int a) (.int b) = some (.int (a * b)) := by
  have := log_s h1 h2
  have := log_s h3 h4
  exact o_mul (by omega)
theorem o_fdivS {a b : Int} (h : 0 < b) (h2 : b < 10 ^ 100) : boD .fdiv (.int a) (.int b) = some (.int (a / b)) := by
  have := log_s (a := b) (by omega) h2
  exact o_fdiv ⟨h, by omega⟩
theorem w_cut {C : Fn} {ρ : Rho} {s : MS} {QS : Fl → Rho → Prop} (P : Rho → Prop) (h : wS C s ρ fun f r1 => f = .nx ∧ P r1) (h2 : ∀ r1, P r1 → QS .nx r1) : wS C s ρ QS := by
  obtain ⟨f, r1, e, rfl, p⟩ := h
  exact ⟨.nx, r1, e, h2 r1 p⟩
theorem ex_sbv {ρ : Rho} {j : Nat} {y x z : D} {Q : D → Prop} (h1 : getV ρ j = some x) (h2 : itemD x y = some z) (h3 : z.isOwn = false) (q : Q z) : ∃ x z, getV ρ j = some x ∧ itemD x y = some z ∧ z.isOwn = false ∧ Q z := ⟨x, z, h1, h2, h3, q⟩
theorem ex_st {ρ : Rho} {j n : Nat} {y : D} {k : Int} {l : List D} {Q : List D → Nat → Prop} (h1 : ownL ρ j = some l) (h2 : y = .int k) (h3 : ixN l.length k = some n) (q : Q l n) : ∃ l k n, ownL ρ j = some l ∧ y = .int k ∧ ixN l.length k = some n ∧ Q l n := ⟨l, k, n, h1, h2, h3, q⟩
end Rr

namespace R49
open PySem PySem.Spec Rr
def m_number_power : MF := ⟨3, false, 6,
  .cons (.par (.cons (.nm 3) (.cons (.nm 4) (.cons (.nm 5) (.nil)))) (.cons (.bin .mod (.con (.int 1)) (.var 0)) (.cons (.bin .mod (.var 1) (.var 0)) (.cons (.var 2) (.nil))))) (.cons (.whl (.cmp .gt (.var 5) (.con (.int 0))) (.cons (.ife (.cmp .eq (.bin .band (.var 5) (.con (.int 1))) (.con (.int 1))) (.cons (.asg (.nm 3) (.bin .mod (.bin .mul (.var 3) (.var 4)) (.var 0))) (.nil)) (.nil)) (.cons (.par (.cons (.nm 4) (.cons (.nm 5) (.nil))) (.cons (.bin .mod (.bin .mul (.var 4) (.var 4)) (.var 0)) (.cons (.bin .shr (.var 5) (.con (.int 1))) (.nil)))) (.nil)))) (.cons (.retv 3) (.nil)))⟩
def m_bend_polynomial : MF := ⟨3, false, 3,
  .cons (.ret (.bin .add (.bin .add (.tup (.cons (.bin .sub (.var 0) (.var 2)) (.nil))) (.bin .mul (.tup (.cons (.con (.int 0)) (.nil))) (.bin .sub (.var 1) (.con (.int 1))))) (.tup (.cons (.con (.int 1)) (.nil))))) (.nil)⟩
def m_bent_turned : MF := ⟨4, false, 10,
  .cons (.asg (.nm 4) (.lnv 2)) (.cons (.par (.cons (.nm 5) (.cons (.nm 6) (.nil))) (.cons (.bin .fdiv (.var 3) (.var 4)) (.cons (.bin .mod (.var 3) (.var 4)) (.nil)))) (.cons (.asg (.nm 7) (.call 0 (.cons (.var 0) (.cons (.var 1) (.cons (.bin .mod (.var 5) (.bin .sub (.var 0) (.con (.int 1)))) (.nil)))))) (.cons (.asg (.nm 8) (.comp [9] (.nm 9) (.it (.var 2)) .no (.bin .mod (.bin .mul (.var 9) (.var 7)) (.var 0)))) (.cons (.ret (.blt .tuple (.bin .add (.comp [9] (.nm 9) (.it (.slice (.var 8) (.so (.bin .sub (.var 4) (.var 6))) .no)) .no (.bin .mod (.bin .mul (.var 9) (.var 1)) (.var 0))) (.slice (.var 8) .no (.so (.bin .sub (.var 4) (.var 6))))))) (.nil)))))⟩
def m_number_order : MF := ⟨2, false, 4,
  .cons (.par (.cons (.nm 2) (.cons (.nm 3) (.nil))) (.cons (.con (.int 1)) (.cons (.var 1) (.nil)))) (.cons (.whl (.cmp .ne (.bin .mod (.var 3) (.var 0)) (.con (.int 1))) (.cons (.par (.cons (.nm 2) (.cons (.nm 3) (.nil))) (.cons (.bin .add (.var 2) (.con (.int 1))) (.cons (.bin .mod (.bin .mul (.var 3) (.var 1)) (.var 0)) (.nil)))) (.nil))) (.cons (.retv 2) (.nil)))⟩
def m_whole_turn : MF := ⟨3, false, 3,
  .cons (.ret (.bin .mul (.var 1) (.call 3 (.cons (.var 0) (.cons (.var 2) (.nil)))))) (.nil)⟩
def m_bent_period : MF := ⟨3, false, 5,
  .cons (.asg (.nm 3) (.call 4 (.cons (.var 0) (.cons (.lnv 2) (.cons (.var 1) (.nil)))))) (.cons (.ret (.sub (.comp [4] (.nm 4) (.rng (.ft (.con (.int 1)) (.bin .add (.var 3) (.con (.int 1))))) (.so (.and (.cmp .eq (.bin .mod (.var 3) (.var 4)) (.con (.int 0))) (.cmp .eq (.call 2 (.cons (.var 0) (.cons (.var 1) (.cons (.var 2) (.cons (.var 4) (.nil)))))) (.var 2)))) (.var 4)) (.con (.int 0)))) (.nil))⟩
def m_turned_row : MF := ⟨2, false, 4,
  .cons (.asg (.nm 2) (.lnv 0)) (.cons (.ret (.blt .tuple (.comp [3] (.nm 3) (.rng (.to (.var 2))) .no (.sbv 0 (.bin .mod (.bin .sub (.var 3) (.var 1)) (.var 2)))))) (.nil))⟩
def m_row_period : MF := ⟨1, false, 2,
  .cons (.ret (.sub (.comp [1] (.nm 1) (.rng (.ft (.con (.int 1)) (.bin .add (.lnv 0) (.con (.int 1))))) (.so (.cmp .eq (.call 6 (.cons (.var 0) (.cons (.var 1) (.nil)))) (.var 0))) (.var 1)) (.con (.int 0)))) (.nil)⟩
def m__law_own_bag : MF := ⟨1, false, 4,
  .cons (.asg (.nm 1) (.comp [3] (.nm 3) (.it (.slice (.var 0) .no (.so (.con (.int 63))))) .no (.bin .mod (.blt .abs (.var 3)) (.bin .pow (.con (.int 10)) (.con (.int 40)))))) (.cons (.asg (.nm 2) (.bin .add (.con (.int 2468)) (.lnv 1))) (.cons (.for (.nm 3) (.it (.var 1)) (.cons (.asg (.nm 2) (.bin .mod (.blt .int (.bin .add (.bin .add (.bin .mul (.var 2) (.con (.int 48271))) (.bin .mod (.blt .int (.var 3)) (.con (.int 2147483629)))) (.con (.int 7)))) (.con (.int 2147483647)))) (.nil))) (.cons (.ret (.lst (.cons (.rvl (.blt .list (.var 1))) (.cons (.con (.int 0)) (.cons (.var 2) (.nil)))))) (.nil))))⟩
def m__law_draw : MF := ⟨2, true, 4,
  .cons (.whl (.and (.cmp .eq (.sbv 0 (.con (.int 1))) (.con (.int 0))) (.cmb .ne 0 0)) (.cons (.asg (.nm 2) (.popp 0 0)) (.cons (.asg (.st 0 (.con (.int 1))) (.ifx (.cmp .gt (.var 2) (.bin .pow (.con (.int 10)) (.con (.int 9)))) (.var 2) (.con (.int 0)))) (.nil)))) (.cons (.ife (.cmp .gt (.sbv 0 (.con (.int 1))) (.con (.int 0))) (.cons (.asg (.nm 3) (.bin .mod (.blt .int (.sbv 0 (.con (.int 1)))) (.var 1))) (.cons (.asg (.st 0 (.con (.int 1))) (.bin .fdiv (.sbv 0 (.con (.int 1))) (.var 1))) (.cons (.retv 3) (.nil)))) (.nil)) (.cons (.asg (.st 0 (.con (.int 2))) (.bin .mod (.blt .int (.bin .add (.bin .mul (.sbv 0 (.con (.int 2))) (.con (.int 48271))) (.con (.int 11)))) (.con (.int 2147483647)))) (.cons (.ret (.bin .mod (.blt .int (.bin .fdiv (.bin .mod (.blt .int (.bin .mul (.sbv 0 (.con (.int 2))) (.sbv 0 (.con (.int 2))))) (.con (.int 2147483629))) (.con (.int 7)))) (.var 1))) (.nil))))⟩
def m__law_pick : MF := ⟨2, true, 2,
  .cons (.ret (.sbv 1 (.cio 9 0 (.cons (.lnv 1) (.nil))))) (.nil)⟩
def m__law_integer : MF := ⟨1, true, 4,
  .cons (.asg (.nm 1) (.cio 9 0 (.cons (.con (.int 8)) (.nil)))) (.cons (.ife (.cmp .eq (.var 1) (.con (.int 0))) (.cons (.ret (.cio 10 0 (.cons (.lst (.cons (.bin .pow (.con (.int 10)) (.con (.int 30))) (.cons (.neg (.bin .pow (.con (.int 10)) (.con (.int 30)))) (.cons (.bin .sub (.bin .pow (.con (.int 10)) (.con (.int 30))) (.con (.int 1))) (.cons (.bin .sub (.con (.int 1)) (.bin .pow (.con (.int 10)) (.con (.int 30)))) (.nil)))))) (.nil)))) (.nil)) (.nil)) (.cons (.ife (.cmp .eq (.var 1) (.con (.int 1))) (.cons (.ret (.bin .sub (.cio 9 0 (.cons (.con (.int 401)) (.nil))) (.con (.int 200)))) (.nil)) (.nil)) (.cons (.asg (.nm 2) (.con (.int 0))) (.cons (.for (.nm 3) (.rng (.to (.con (.int 4)))) (.cons (.asg (.nm 2) (.bin .add (.bin .mul (.var 2) (.bin .pow (.con (.int 10)) (.con (.int 8)))) (.cio 9 0 (.cons (.bin .pow (.con (.int 10)) (.con (.int 8))) (.nil))))) (.nil))) (.cons (.asg (.nm 2) (.bin .mod (.blt .int (.var 2)) (.bin .add (.bin .pow (.con (.int 10)) (.con (.int 30))) (.con (.int 1))))) (.cons (.for (.nm 3) (.rng (.to (.cio 9 0 (.cons (.con (.int 25)) (.nil))))) (.cons (.asg (.nm 2) (.bin .fdiv (.var 2) (.con (.int 10)))) (.nil))) (.cons (.ret (.ifx (.cmp .eq (.cio 9 0 (.cons (.con (.int 2)) (.nil))) (.con (.int 0))) (.var 2) (.neg (.var 2)))) (.nil))))))))⟩
def m__law_is_number : MF := ⟨2, false, 2,
  .cons (.ret (.and (.isi (.var 0) .int) (.and (.not (.isi (.var 0) .bool)) (.cmp .eq (.blt .repr (.var 0)) (.blt .repr (.var 1)))))) (.nil)⟩
def m__law_is_row : MF := ⟨2, false, 3,
  .cons (.ife (.or (.not (.isi (.var 0) .tuple)) (.cmp .ne (.lnv 0) (.lnv 1))) (.cons (.ret (.con (.bl false))) (.nil)) (.nil)) (.cons (.ife (.not (.blt .all (.comp [2] (.nm 2) (.it (.var 0)) .no (.and (.isi (.var 2) .int) (.not (.isi (.var 2) .bool)))))) (.cons (.ret (.con (.bl false))) (.nil)) (.nil)) (.cons (.ret (.cmp .eq (.blt .repr (.var 0)) (.blt .repr (.var 1)))) (.nil)))⟩
def m__law_gcd : MF := ⟨2, false, 2,
  .cons (.whl (.cmp .ne (.var 1) (.con (.int 0))) (.cons (.par (.cons (.nm 0) (.cons (.nm 1) (.nil))) (.cons (.var 1) (.cons (.bin .mod (.blt .int (.var 0)) (.var 1)) (.nil)))) (.nil))) (.cons (.retv 0) (.nil))⟩
def m__law_powers : MF := ⟨2, false, 4,
  .cons (.par (.cons (.nm 2) (.cons (.nm 3) (.nil))) (.cons (.lst (.cons (.con (.int 1)) (.nil))) (.cons (.var 1) (.nil)))) (.cons (.whl (.cmp .ne (.var 3) (.con (.int 1))) (.cons (.exp (.app 2 (.var 3))) (.cons (.asg (.nm 3) (.bin .mod (.blt .int (.bin .mul (.var 3) (.var 1))) (.var 0))) (.nil)))) (.cons (.retv 2) (.nil)))⟩
def m__law_turned : MF := ⟨4, false, 9,
  .cons (.par (.cons (.nm 4) (.cons (.nm 5) (.cons (.nm 6) (.nil)))) (.cons (.lnv 2) (.cons (.call 15 (.cons (.var 0) (.cons (.var 1) (.nil)))) (.cons (.bin .mul (.lst (.cons (.con (.int 0)) (.nil))) (.lnv 2)) (.nil))))) (.cons (.for (.nm 7) (.rng (.to (.var 4))) (.cons (.asg (.nm 8) (.bin .fdiv (.bin .add (.var 7) (.var 3)) (.var 4))) (.cons (.asg (.st 6 (.bin .mod (.blt .int (.bin .add (.var 7) (.var 3))) (.var 4))) (.bin .mod (.blt .int (.bin .mul (.sbv 2 (.var 7)) (.sbv 5 (.bin .mod (.blt .int (.var 8)) (.lnv 5))))) (.var 0))) (.nil)))) (.cons (.ret (.blt .tuple (.var 6))) (.nil)))⟩
def m__law_divisors : MF := ⟨1, false, 2,
  .cons (.ret (.comp [1] (.nm 1) (.it (.lrg false (.ft (.con (.int 1)) (.bin .add (.var 0) (.con (.int 1)))))) (.so (.cmp .eq (.bin .mod (.blt .int (.var 0)) (.var 1)) (.con (.int 0)))) (.var 1))) (.nil)⟩
def m__law_period : MF := ⟨3, false, 5,
  .cons (.asg (.nm 3) (.bin .mul (.lnv 2) (.blt .len (.call 15 (.cons (.var 0) (.cons (.var 1) (.nil))))))) (.cons (.for (.nm 4) (.it (.call 17 (.cons (.var 3) (.nil)))) (.cons (.ife (.cmp .eq (.call 16 (.cons (.var 0) (.cons (.var 1) (.cons (.var 2) (.cons (.var 4) (.nil)))))) (.var 2)) (.cons (.retv 4) (.nil)) (.nil)) (.nil))) (.cons (.retv 3) (.nil)))⟩
def m__law_short_row : MF := ⟨4, true, 11,
  .cons (.asg (.nm 4) (.call 15 (.cons (.var 1) (.cons (.var 3) (.nil))))) (.cons (.asg (.nm 5) (.call 17 (.cons (.bin .mul (.var 2) (.lnv 4)) (.nil)))) (.cons (.asg (.nm 5) (.comp [6] (.nm 6) (.it (.var 5)) (.so (.cmp .eq (.sbv 4 (.bin .mod (.blt .int (.bin .fdiv (.var 6) (.call 14 (.cons (.var 2) (.cons (.var 6) (.nil)))))) (.lnv 4))) (.con (.int 1)))) (.var 6))) (.cons (.par (.cons (.nm 6) (.cons (.nm 7) (.nil))) (.cons (.cio 10 0 (.cons (.var 5) (.nil))) (.cons (.bin .mul (.lst (.cons (.neg (.con (.int 1))) (.nil))) (.var 2)) (.nil)))) (.cons (.for (.nm 8) (.rng (.to (.var 2))) (.cons (.par (.cons (.nm 9) (.cons (.nm 10) (.nil))) (.cons (.var 8) (.cons (.ifx (.cmp .lt (.sbv 7 (.var 8)) (.con (.int 0))) (.cio 9 0 (.cons (.var 1) (.nil))) (.con (.int 0))) (.nil)))) (.cons (.whl (.cmp .lt (.sbv 7 (.var 9)) (.con (.int 0))) (.cons (.asg (.st 7 (.var 9)) (.var 10)) (.cons (.asg (.nm 10) (.bin .mod (.blt .int (.bin .mul (.var 10) (.sbv 4 (.bin .mod (.blt .int (.bin .fdiv (.bin .add (.var 9) (.var 6)) (.var 2))) (.lnv 4))))) (.var 1))) (.cons (.asg (.nm 9) (.bin .mod (.blt .int (.bin .add (.var 9) (.var 6))) (.var 2))) (.nil))))) (.nil)))) (.cons (.ret (.blt .tuple (.var 7))) (.nil))))))⟩
def m__law_own_row : MF := ⟨4, true, 7,
  .cons (.asg (.nm 4) (.cio 9 0 (.cons (.con (.int 8)) (.nil)))) (.cons (.ife (.cmp .lt (.var 4) (.con (.int 3))) (.cons (.ret (.blt .tuple (.comp [6] (.nm 6) (.rng (.to (.var 2))) .no (.cio 9 0 (.cons (.var 1) (.nil)))))) (.nil)) (.nil)) (.cons (.ife (.cmp .lt (.var 4) (.con (.int 6))) (.cons (.ret (.cio 19 0 (.cons (.var 1) (.cons (.var 2) (.cons (.var 3) (.nil)))))) (.nil)) (.nil)) (.cons (.asg (.nm 5) (.bin .mul (.lst (.cons (.con (.int 0)) (.nil))) (.var 2))) (.cons (.ife (.or (.cmp .eq (.var 4) (.con (.int 6))) (.cmp .gt (.cio 9 0 (.cons (.con (.int 3)) (.nil))) (.con (.int 0)))) (.cons (.asg (.st 5 (.cio 9 0 (.cons (.var 2) (.nil)))) (.bin .add (.con (.int 1)) (.cio 9 0 (.cons (.bin .sub (.var 1) (.con (.int 1))) (.nil))))) (.nil)) (.nil)) (.cons (.ret (.blt .tuple (.var 5))) (.nil))))))⟩
def m__law_setting : MF := ⟨2, true, 5,
  .cons (.asg (.nm 2) (.ifx (.cmp .ne (.var 1) (.con (.int 2))) (.cio 10 0 (.cons (.lst (.cons (.con (.int 2)) (.cons (.con (.int 3)) (.cons (.con (.int 5)) (.cons (.con (.int 7)) (.cons (.con (.int 11)) (.cons (.con (.int 13)) (.nil)))))))) (.nil))) (.cio 10 0 (.cons (.lst (.cons (.con (.int 3)) (.cons (.con (.int 5)) (.cons (.con (.int 7)) (.cons (.con (.int 11)) (.cons (.con (.int 13)) (.nil))))))) (.nil))))) (.cons (.asg (.nm 3) (.bin .add (.con (.int 1)) (.cio 9 0 (.cons (.con (.int 16)) (.nil))))) (.cons (.asg (.nm 4) (.ifx (.cmp .ne (.var 1) (.con (.int 2))) (.bin .add (.con (.int 1)) (.cio 9 0 (.cons (.bin .sub (.var 2) (.con (.int 1))) (.nil)))) (.bin .add (.con (.int 2)) (.cio 9 0 (.cons (.bin .sub (.var 2) (.con (.int 2))) (.nil)))))) (.cons (.ife (.cmp .eq (.var 1) (.con (.int 0))) (.cons (.ret (.tup (.cons (.con (.int 13)) (.cons (.con (.int 16)) (.cons (.bin .add (.con (.int 1)) (.cio 9 0 (.cons (.con (.int 12)) (.nil)))) (.nil)))))) (.nil)) (.nil)) (.cons (.ife (.cmp .eq (.var 1) (.con (.int 3))) (.cons (.asg (.nm 3) (.bin .sub (.con (.int 16)) (.cio 9 0 (.cons (.con (.int 4)) (.nil))))) (.nil)) (.nil)) (.cons (.ret (.ifx (.cmp .eq (.var 1) (.con (.int 1))) (.tup (.cons (.var 2) (.cons (.var 3) (.cons (.con (.int 1)) (.nil))))) (.tup (.cons (.var 2) (.cons (.var 3) (.cons (.var 4) (.nil))))))) (.nil))))))⟩
def m__law_is_whole_right : MF := ⟨3, false, 5,
  .cons (.asg (.nm 3) (.bin .add (.bin .add (.tup (.cons (.bin .sub (.var 0) (.var 2)) (.nil))) (.bin .mul (.tup (.cons (.con (.int 0)) (.nil))) (.bin .sub (.var 1) (.con (.int 1))))) (.tup (.cons (.con (.int 1)) (.nil))))) (.cons (.ife (.or (.not (.call 13 (.cons (.call 1 (.cons (.var 0) (.cons (.var 1) (.cons (.var 2) (.nil))))) (.cons (.var 3) (.nil))))) (.not (.call 13 (.cons (.ckw 1 (.cons (.var 0) (.cons (.var 1) (.cons (.var 2) (.nil)))) [0, 1, 2]) (.cons (.var 3) (.nil)))))) (.cons (.ret (.con (.bl false))) (.nil)) (.nil)) (.cons (.asg (.nm 4) (.bin .mul (.var 1) (.blt .len (.call 15 (.cons (.var 0) (.cons (.var 2) (.nil))))))) (.cons (.ret (.and (.call 12 (.cons (.call 4 (.cons (.var 0) (.cons (.var 1) (.cons (.var 2) (.nil))))) (.cons (.var 4) (.nil)))) (.call 12 (.cons (.ckw 4 (.cons (.var 0) (.cons (.var 1) (.cons (.var 2) (.nil)))) [0, 1, 2]) (.cons (.var 4) (.nil)))))) (.nil))))⟩
def m__law_are_all_right : MF := ⟨1, true, 9,
  .cons (.for (.nm 1) (.it (.lst (.cons (.con (.int 2)) (.cons (.con (.int 3)) (.cons (.con (.int 5)) (.cons (.con (.int 7)) (.cons (.con (.int 11)) (.cons (.con (.int 13)) (.nil))))))))) (.cons (.for (.nm 2) (.rng (.ft (.con (.int 1)) (.var 1))) (.cons (.asg (.nm 3) (.bin .add (.con (.int 1)) (.cio 9 0 (.cons (.con (.int 16)) (.nil))))) (.cons (.par (.cons (.nm 4) (.cons (.nm 5) (.cons (.nm 6) (.nil)))) (.cons (.cio 9 0 (.cons (.var 3) (.nil))) (.cons (.bin .add (.con (.int 1)) (.cio 9 0 (.cons (.bin .sub (.var 1) (.con (.int 1))) (.nil)))) (.cons (.cio 11 0 (.nil)) (.nil))))) (.cons (.asg (.nm 7) (.bin .add (.bin .add (.bin .mul (.tup (.cons (.con (.int 0)) (.nil))) (.var 4)) (.tup (.cons (.var 5) (.nil)))) (.bin .mul (.tup (.cons (.con (.int 0)) (.nil))) (.bin .sub (.bin .sub (.var 3) (.con (.int 1))) (.var 4))))) (.cons (.asg (.nm 8) (.call 16 (.cons (.var 1) (.cons (.var 2) (.cons (.var 7) (.cons (.var 6) (.nil))))))) (.cons (.ife (.or (.not (.call 22 (.cons (.var 1) (.cons (.var 3) (.cons (.var 2) (.nil)))))) (.not (.call 13 (.cons (.call 2 (.cons (.var 1) (.cons (.var 2) (.cons (.var 7) (.cons (.var 6) (.nil)))))) (.cons (.var 8) (.nil)))))) (.cons (.ret (.con (.bl false))) (.nil)) (.nil)) (.cons (.ife (.not (.call 12 (.cons (.call 5 (.cons (.var 1) (.cons (.var 2) (.cons (.var 7) (.nil))))) (.cons (.bin .mul (.var 3) (.blt .len (.call 15 (.cons (.var 1) (.cons (.var 2) (.nil)))))) (.nil))))) (.cons (.ret (.con (.bl false))) (.nil)) (.nil)) (.nil)))))))) (.nil))) (.cons (.ret (.con (.bl true))) (.nil))⟩
def m__law_own_turns : MF := ⟨4, true, 5,
  .cons (.asg (.nm 4) (.lst (.cons (.con (.int 0)) (.cons (.con (.int 1)) (.cons (.neg (.con (.int 1))) (.cons (.var 1) (.cons (.neg (.var 1)) (.cons (.bin .sub (.var 1) (.con (.int 1))) (.cons (.bin .sub (.con (.int 1)) (.var 1)) (.cons (.var 2) (.cons (.neg (.var 2)) (.cons (.bin .pow (.con (.int 10)) (.con (.int 30))) (.cons (.neg (.bin .pow (.con (.int 10)) (.con (.int 30)))) (.nil)))))))))))))) (.cons (.exp (.app 4 (.bin .sub (.cio 9 0 (.cons (.bin .add (.bin .mul (.con (.int 4)) (.var 2)) (.con (.int 1))) (.nil))) (.bin .mul (.con (.int 2)) (.var 2))))) (.cons (.exp (.app 4 (.bin .mul (.var 3) (.bin .sub (.cio 9 0 (.cons (.con (.int 41)) (.nil))) (.con (.int 20)))))) (.cons (.exp (.app 4 (.bin .add (.bin .add (.bin .mul (.var 3) (.bin .sub (.cio 9 0 (.cons (.con (.int 41)) (.nil))) (.con (.int 20)))) (.con (.int 1))) (.cio 9 0 (.cons (.var 3) (.nil)))))) (.cons (.ret (.bin .add (.var 4) (.lst (.cons (.cio 11 0 (.nil)) (.cons (.cio 11 0 (.nil)) (.nil)))))) (.nil)))))⟩
def m__law_are_turns_right : MF := ⟨5, true, 15,
  .cons (.par (.cons (.nm 5) (.cons (.nm 6) (.nil))) (.cons (.lnv 3) (.cons (.blt .repr (.var 3)) (.nil)))) (.cons (.asg (.nm 7) (.bin .mul (.var 5) (.blt .len (.call 15 (.cons (.var 1) (.cons (.var 2) (.nil))))))) (.cons (.for (.tp (.cons (.nm 8) (.cons (.nm 9) (.nil)))) (.enu (.cio 24 0 (.cons (.var 5) (.cons (.var 7) (.cons (.var 4) (.nil)))))) (.cons (.asg (.nm 10) (.call 16 (.cons (.var 1) (.cons (.var 2) (.cons (.var 3) (.cons (.var 9) (.nil))))))) (.cons (.ife (.cmp .ne (.cmp .eq (.var 10) (.var 3)) (.cmp .eq (.bin .mod (.blt .int (.var 9)) (.var 4)) (.con (.int 0)))) (.cons (.ret (.con (.bl false))) (.nil)) (.nil)) (.cons (.asg (.nm 11) (.ifx (.cmp .lt (.var 8) (.con (.int 8))) (.call 2 (.cons (.var 1) (.cons (.var 2) (.cons (.var 3) (.cons (.var 9) (.nil)))))) (.ckw 2 (.cons (.var 1) (.cons (.var 2) (.cons (.var 3) (.cons (.var 9) (.nil))))) [0, 1, 2, 3]))) (.cons (.ife (.or (.not (.call 13 (.cons (.var 11) (.cons (.var 10) (.nil))))) (.not (.call 13 (.cons (.call 2 (.cons (.var 1) (.cons (.var 2) (.cons (.var 3) (.cons (.var 9) (.nil)))))) (.cons (.var 10) (.nil)))))) (.cons (.ret (.con (.bl false))) (.nil)) (.nil)) (.cons (.ife (.not (.call 13 (.cons (.call 2 (.cons (.var 1) (.cons (.var 2) (.cons (.var 11) (.cons (.neg (.var 9)) (.nil)))))) (.cons (.var 3) (.nil))))) (.cons (.ret (.con (.bl false))) (.nil)) (.nil)) (.nil))))))) (.cons (.par (.cons (.nm 12) (.cons (.nm 13) (.nil))) (.cons (.cio 11 0 (.nil)) (.cons (.cio 11 0 (.nil)) (.nil)))) (.cons (.ife (.cmp .gt (.blt .abs (.bin .add (.var 12) (.var 13))) (.bin .pow (.con (.int 10)) (.con (.int 30)))) (.cons (.asg (.nm 13) (.neg (.var 13))) (.nil)) (.nil)) (.cons (.par (.cons (.nm 10) (.cons (.nm 14) (.nil))) (.cons (.call 16 (.cons (.var 1) (.cons (.var 2) (.cons (.var 3) (.cons (.bin .add (.var 12) (.var 13)) (.nil)))))) (.cons (.call 16 (.cons (.var 1) (.cons (.var 2) (.cons (.var 3) (.cons (.var 12) (.nil)))))) (.nil)))) (.cons (.ife (.not (.call 13 (.cons (.call 2 (.cons (.var 1) (.cons (.var 2) (.cons (.call 2 (.cons (.var 1) (.cons (.var 2) (.cons (.var 3) (.cons (.var 12) (.nil)))))) (.cons (.var 13) (.nil)))))) (.cons (.var 10) (.nil))))) (.cons (.ret (.con (.bl false))) (.nil)) (.nil)) (.cons (.ife (.or (.not (.call 13 (.cons (.call 2 (.cons (.var 1) (.cons (.var 2) (.cons (.var 14) (.cons (.var 13) (.nil)))))) (.cons (.var 10) (.nil))))) (.not (.call 13 (.cons (.call 2 (.cons (.var 1) (.cons (.var 2) (.cons (.var 14) (.cons (.neg (.var 12)) (.nil)))))) (.cons (.var 3) (.nil)))))) (.cons (.ret (.con (.bl false))) (.nil)) (.nil)) (.cons (.ret (.and (.call 13 (.cons (.call 2 (.cons (.var 1) (.cons (.var 2) (.cons (.var 3) (.cons (.bin .add (.var 12) (.var 13)) (.nil)))))) (.cons (.var 10) (.nil)))) (.cmp .eq (.blt .repr (.var 3)) (.var 6)))) (.nil)))))))))⟩
def m__law_are_periods_right : MF := ⟨5, true, 9,
  .cons (.par (.cons (.nm 5) (.cons (.nm 6) (.nil))) (.cons (.bin .sub (.cio 9 0 (.cons (.con (.int 400)) (.nil))) (.con (.int 200))) (.cons (.bin .add (.con (.int 1)) (.cio 9 0 (.cons (.bin .sub (.var 1) (.con (.int 1))) (.nil)))) (.nil)))) (.cons (.asg (.nm 7) (.lst (.cons (.call 5 (.cons (.var 1) (.cons (.var 2) (.cons (.var 3) (.nil))))) (.cons (.ckw 5 (.cons (.var 1) (.cons (.var 2) (.cons (.var 3) (.nil)))) [0, 1, 2]) (.cons (.call 5 (.cons (.var 1) (.cons (.var 2) (.cons (.call 16 (.cons (.var 1) (.cons (.var 2) (.cons (.var 3) (.cons (.var 5) (.nil)))))) (.nil))))) (.nil)))))) (.cons (.exp (.app 7 (.call 5 (.cons (.var 1) (.cons (.var 2) (.cons (.blt .tuple (.comp [8] (.nm 8) (.it (.var 3)) .no (.bin .mod (.blt .int (.bin .mul (.var 8) (.var 6))) (.var 1)))) (.nil))))))) (.cons (.exp (.app 7 (.call 5 (.cons (.var 1) (.cons (.var 2) (.cons (.var 3) (.nil))))))) (.cons (.ret (.blt .all (.comp [8] (.nm 8) (.it (.var 7)) .no (.call 12 (.cons (.var 8) (.cons (.var 4) (.nil))))))) (.nil)))))⟩
def m__law_is_plain_right : MF := ⟨3, true, 8,
  .cons (.par (.cons (.nm 3) (.cons (.nm 4) (.nil))) (.cons (.lnv 2) (.cons (.call 18 (.cons (.var 1) (.cons (.con (.int 1)) (.cons (.var 2) (.nil))))) (.nil)))) (.cons (.for (.nm 5) (.it (.lst (.cons (.con (.int 1)) (.cons (.neg (.con (.int 1))) (.cons (.bin .sub (.cio 9 0 (.cons (.con (.int 99)) (.nil))) (.con (.int 49))) (.cons (.cio 11 0 (.nil)) (.nil))))))) (.cons (.asg (.nm 6) (.bin .mod (.blt .int (.var 5)) (.var 3))) (.cons (.asg (.nm 7) (.bin .add (.slice (.var 2) (.so (.bin .sub (.var 3) (.var 6))) .no) (.slice (.var 2) .no (.so (.bin .sub (.var 3) (.var 6)))))) (.cons (.ife (.or (.not (.call 13 (.cons (.call 6 (.cons (.var 2) (.cons (.var 5) (.nil)))) (.cons (.var 7) (.nil))))) (.not (.call 13 (.cons (.call 2 (.cons (.var 1) (.cons (.con (.int 1)) (.cons (.var 2) (.cons (.var 5) (.nil)))))) (.cons (.var 7) (.nil)))))) (.cons (.ret (.con (.bl false))) (.nil)) (.nil)) (.nil))))) (.cons (.ife (.cmp .gt (.bin .mod (.blt .int (.var 3)) (.var 4)) (.con (.int 0))) (.cons (.ret (.con (.bl false))) (.nil)) (.nil)) (.cons (.ret (.and (.call 12 (.cons (.call 7 (.cons (.var 2) (.nil))) (.cons (.var 4) (.nil)))) (.call 12 (.cons (.call 5 (.cons (.var 1) (.cons (.con (.int 1)) (.cons (.var 2) (.nil))))) (.cons (.var 4) (.nil)))))) (.nil))))⟩
def m_law : MF := ⟨1, false, 10,
  .cons (.asg (.nm 1) (.call 8 (.cons (.var 0) (.nil)))) (.cons (.for (.nm 2) (.rng (.to (.con (.int 8)))) (.cons (.asg (.tp (.cons (.nm 3) (.cons (.nm 4) (.cons (.nm 5) (.nil))))) (.cio 21 1 (.cons (.var 2) (.nil)))) (.cons (.asg (.nm 6) (.cio 20 1 (.cons (.var 3) (.cons (.var 4) (.cons (.var 5) (.nil)))))) (.cons (.ife (.cmp .inn (.var 2) (.tup (.cons (.con (.int 1)) (.cons (.con (.int 2)) (.cons (.con (.int 4)) (.nil)))))) (.cons (.asg (.nm 6) (.cio 19 1 (.cons (.var 3) (.cons (.var 4) (.cons (.var 5) (.nil)))))) (.nil)) (.nil)) (.cons (.asg (.nm 7) (.call 18 (.cons (.var 3) (.cons (.var 5) (.cons (.var 6) (.nil)))))) (.cons (.ife (.or (.not (.call 22 (.cons (.var 3) (.cons (.var 4) (.cons (.var 5) (.nil)))))) (.not (.cio 25 1 (.cons (.var 3) (.cons (.var 5) (.cons (.var 6) (.cons (.var 7) (.nil)))))))) (.cons (.ret (.con (.bl false))) (.nil)) (.nil)) (.cons (.ife (.not (.cio 26 1 (.cons (.var 3) (.cons (.var 5) (.cons (.var 6) (.cons (.var 7) (.nil))))))) (.cons (.ret (.con (.bl false))) (.nil)) (.nil)) (.cons (.ife (.and (.cmp .lt (.var 2) (.con (.int 3))) (.not (.cio 27 1 (.cons (.var 3) (.cons (.var 6) (.nil)))))) (.cons (.ret (.con (.bl false))) (.nil)) (.nil)) (.nil))))))))) (.cons (.asg (.nm 8) (.lst (.cons (.tup (.cons (.tup (.cons (.con (.int 3)) (.cons (.con (.int 2)) (.cons (.tup (.cons (.con (.int 1)) (.cons (.con (.int 2)) (.cons (.con (.int 0)) (.cons (.con (.int 1)) (.nil)))))) (.nil))))) (.cons (.con (.int 8)) (.nil)))) (.cons (.tup (.cons (.tup (.cons (.con (.int 3)) (.cons (.con (.int 2)) (.cons (.tup (.cons (.con (.int 0)) (.cons (.con (.int 0)) (.cons (.con (.int 0)) (.cons (.con (.int 0)) (.nil)))))) (.nil))))) (.cons (.con (.int 1)) (.nil)))) (.cons (.tup (.cons (.tup (.cons (.con (.int 5)) (.cons (.con (.int 4)) (.cons (.tup (.cons (.con (.int 1)) (.cons (.con (.int 2)) (.nil)))) (.nil))))) (.cons (.con (.int 4)) (.nil)))) (.cons (.tup (.cons (.tup (.cons (.con (.int 13)) (.cons (.con (.int 2)) (.cons (.tup (.cons (.con (.int 5)) (.nil))) (.nil))))) (.cons (.con (.int 12)) (.nil)))) (.nil))))))) (.cons (.for (.tp (.cons (.tp (.cons (.nm 3) (.cons (.nm 5) (.cons (.nm 6) (.nil))))) (.cons (.nm 9) (.nil)))) (.it (.var 8)) (.cons (.ife (.or (.not (.call 12 (.cons (.call 5 (.cons (.var 3) (.cons (.var 5) (.cons (.var 6) (.nil))))) (.cons (.var 9) (.nil))))) (.cmp .ne (.call 18 (.cons (.var 3) (.cons (.var 5) (.cons (.var 6) (.nil))))) (.var 9))) (.cons (.ret (.con (.bl false))) (.nil)) (.nil)) (.nil))) (.cons (.ret (.cio 23 1 (.nil))) (.nil)))))⟩
def fs : List MF := [m_number_power, m_bend_polynomial, m_bent_turned, m_number_order, m_whole_turn, m_bent_period, m_turned_row, m_row_period, m__law_own_bag, m__law_draw, m__law_pick, m__law_integer, m__law_is_number, m__law_is_row, m__law_gcd, m__law_powers, m__law_turned, m__law_divisors, m__law_period, m__law_short_row, m__law_own_row, m__law_setting, m__law_is_whole_right, m__law_are_all_right, m__law_own_turns, m__law_are_turns_right, m__law_are_periods_right, m__law_is_plain_right, m_law]
end R49

namespace R49
open PySem PySem.Spec Rr
abbrev bagD (cs : List Int) (b m : Int) : D := .lst true [.lst true (iA cs), .int b, .int m]
theorem bag_ok {cs : List Int} {b m : Int} (h1 : cs.length ≤ 63) (h2 : ∀ c ∈ cs, 0 ≤ c ∧ c < 10 ^ 40) (h3 : 0 ≤ b) (h4 : b < 10 ^ 40) (h5 : 0 ≤ m) (h6 : m < 2147483647) : Bag (bagD cs b m) := ⟨⟨cs, b, m, rfl, h1, h2, h3, h4, h5, h6⟩⟩
theorem draw (C : Fn) {x : D} (hx : Bag x) {w : Int} (hw : 1 ≤ w) (hw2 : w ≤ 10 ^ 40) : ∃ d x', runF C m__law_draw [x, .int w] = some (d, [x']) ∧ ∃ r, d = .int r ∧ 0 ≤ r ∧ r < w ∧ Bag x' := by
  obtain ⟨cs, b, m, rfl, h1, h2, h3, h4, h5, h6⟩ := hx.ex
  refine w_runio (Q := fun d x' => ∃ r, d = .int r ∧ 0 ≤ r ∧ r < w ∧ Bag x') rfl (by decide) rfl ?_
  show wB C _ [some (bagD cs b m), some (.int w), none, none] _
  refine w_then (fun ρ => ∃ cs b, ρ = [some (bagD cs b m), some (.int w), none, none] ∧ cs.length ≤ 63 ∧ (∀ c ∈ cs, 0 ≤ c ∧ c < 10 ^ 40) ∧ 0 ≤ b ∧ b < 10 ^ 40) ?_ fun ρ ⟨cs, b, eρ, g1, g2, g3, g4⟩ => ?_
  · refine w_whl (fun k ρ => ∃ cs b y, ρ = [some (bagD cs b m), some (.int w), y, none] ∧ k = cs.length ∧ cs.length ≤ 63 ∧ (∀ c ∈ cs, 0 ≤ c ∧ c < 10 ^ 40) ∧ 0 ≤ b ∧ b < 10 ^ 40)
      ⟨cs.length, by show cs.length < 100000; omega, cs, b, none, rfl, rfl, h1, h2, h3, h4⟩ fun k ρ ⟨cs, b, y, eρ, ek, g1, g2, g3, g4⟩ => ?_
    subst eρ
    show wE C _ [some (bagD cs b m), some (.int w), none, none] _
    (repeat (first
      | refine w_bcons ?_ | refine w_asg ?_ | refine w_par ?_ | refine w_exp ?_ | refine w_ife ?_ | refine w_ret ?_ | refine w_bnil ?_ | refine w_brk ?_ | refine w_cnt ?_
      | refine w_con ?_ | refine w_bin ?_ | refine w_neg ?_ | refine w_not ?_ | refine w_and ?_ | refine w_or ?_ | refine w_ifx ?_ | refine w_cmp ?_ | refine w_chain ?_
      | refine w_anil ?_ | refine w_acons ?_ | refine w_tup ?_ | refine w_lst ?_ | refine w_sub ?_ | refine w_ono ?_ | refine w_oso ?_ | refine w_slice ?_ | refine w_blt ?_ | refine w_isi ?_
      | refine w_call ?_ | refine w_ckw ?_ | refine w_rvl ?_ | refine w_lrg ?_ | refine w_to ?_ | refine w_ft ?_ | refine w_it ?_ | refine w_rng ?_ | refine w_enu ?_ | refine w_comp ?_
      | refine w_tp ?_ | refine w_tnil ?_ | refine w_tcons ?_
      | refine w_var (d := _) rfl rfl ?_ | refine w_varO (d := _) rfl rfl ?_ | refine w_lnv (d := _) rfl rfl ?_ | refine w_sbv (d0 := _) rfl ?_ | refine w_cio (d0 := _) rfl ?_ | refine w_app (l0 := _) rfl ?_ | refine w_st (d0 := _) rfl ?_ | refine w_retv (d := _) rfl ?_
      | refine w_nm (Nat.le_of_ble_eq_true rfl) ?_
      | refine ex_some (o_add _ _) ?_ | refine ex_some (o_sub _ _) ?_ | refine ex_some rfl ?_ | refine ex_int ?_ | refine ex_lst ?_ | refine ex_sbv rfl rfl rfl ?_ | refine ex_st rfl rfl rfl ?_
      | (refine ⟨(Nat.le_of_ble_eq_true rfl : _ ≤ lim), ?_⟩)))
    refine ex_dec (fun hb => ?_) (fun hb => ?_)
    · subst hb
      have hcmb : coD .ne (D.fz (.lst true (iA cs))) (.lst false []) = some (!decide (cs = [])) := by
        rw [D.fz, fzA_i]
        show (eqB (.lst false (iA cs)) (.lst false (iA []))).map (!·) = _
        rw [eq_lst]
        rfl
      refine w_cmb (x := bagD cs 0 m) (d := .lst true (iA cs)) rfl rfl rfl hcmb ?_
      refine ⟨_, rfl, fun hn => ⟨rfl, cs, 0, rfl, g1, g2, g3, g4⟩, fun hn => ?_⟩
      have hc : cs ≠ [] := by simpa using hn
      have hpos : 0 < cs.length := List.length_pos_iff.mpr hc
      have hlast : (iA cs)[(iA cs).length - 1]? = some (.int (cs[cs.length - 1]'(by omega))) := by
        rw [List.length_map, List.getElem?_map, List.getElem?_eq_getElem (by omega)]
        rfl
      have hz := g2 _ (List.getElem_mem (l := cs) (n := cs.length - 1) (by omega))
      refine w_bcons (w_asg (w_popp (k := 0) rfl rfl rfl hlast rfl ?_))
      have edl : (iA cs).dropLast = iA cs.dropLast := by rw [iA, ← List.map_dropLast]
      rw [edl]
      generalize cs[cs.length - 1]'(by omega) = z at hz
      refine w_nm (Nat.le_of_ble_eq_true rfl) ?_
      show wB C _ [some (bagD cs.dropLast 0 m), some (.int w), some (.int z), none] _
      have hg2 : ∀ c ∈ cs.dropLast, 0 ≤ c ∧ c < 10 ^ 40 := fun c mc => g2 c (List.dropLast_subset cs mc)
      have hgl : cs.dropLast.length < cs.length := by rw [List.length_dropLast]; omega
      (repeat (first
        | refine w_bcons ?_ | refine w_asg ?_ | refine w_par ?_ | refine w_exp ?_ | refine w_ife ?_ | refine w_ret ?_ | refine w_bnil ?_ | refine w_brk ?_ | refine w_cnt ?_
        | refine w_con ?_ | refine w_bin ?_ | refine w_neg ?_ | refine w_not ?_ | refine w_and ?_ | refine w_or ?_ | refine w_ifx ?_ | refine w_cmp ?_ | refine w_chain ?_
        | refine w_anil ?_ | refine w_acons ?_ | refine w_tup ?_ | refine w_lst ?_ | refine w_sub ?_ | refine w_ono ?_ | refine w_oso ?_ | refine w_slice ?_ | refine w_blt ?_ | refine w_isi ?_
        | refine w_call ?_ | refine w_ckw ?_ | refine w_rvl ?_ | refine w_lrg ?_ | refine w_to ?_ | refine w_ft ?_ | refine w_it ?_ | refine w_rng ?_ | refine w_enu ?_ | refine w_comp ?_
        | refine w_tp ?_ | refine w_tnil ?_ | refine w_tcons ?_
        | refine w_var (d := _) rfl rfl ?_ | refine w_varO (d := _) rfl rfl ?_ | refine w_lnv (d := _) rfl rfl ?_ | refine w_sbv (d0 := _) rfl ?_ | refine w_cio (d0 := _) rfl ?_ | refine w_app (l0 := _) rfl ?_ | refine w_st (d0 := _) rfl ?_ | refine w_retv (d := _) rfl ?_
        | refine w_nm (Nat.le_of_ble_eq_true rfl) ?_
        | refine ex_some (o_add _ _) ?_ | refine ex_some (o_sub _ _) ?_ | refine ex_some rfl ?_ | refine ex_int ?_ | refine ex_lst ?_ | refine ex_sbv rfl rfl rfl ?_ | refine ex_st rfl rfl rfl ?_
        | (refine ⟨(Nat.le_of_ble_eq_true rfl : _ ≤ lim), ?_⟩)))
      · refine ex_dec (fun h9 => ?_) (fun h9 => ?_)
        · (repeat (first
            | refine w_bcons ?_ | refine w_asg ?_ | refine w_par ?_ | refine w_exp ?_ | refine w_ife ?_ | refine w_ret ?_ | refine w_bnil ?_ | refine w_brk ?_ | refine w_cnt ?_
            | refine w_con ?_ | refine w_bin ?_ | refine w_neg ?_ | refine w_not ?_ | refine w_and ?_ | refine w_or ?_ | refine w_ifx ?_ | refine w_cmp ?_ | refine w_chain ?_
            | refine w_anil ?_ | refine w_acons ?_ | refine w_tup ?_ | refine w_lst ?_ | refine w_sub ?_ | refine w_ono ?_ | refine w_oso ?_ | refine w_slice ?_ | refine w_blt ?_ | refine w_isi ?_
            | refine w_call ?_ | refine w_ckw ?_ | refine w_rvl ?_ | refine w_lrg ?_ | refine w_to ?_ | refine w_ft ?_ | refine w_it ?_ | refine w_rng ?_ | refine w_enu ?_ | refine w_comp ?_
            | refine w_tp ?_ | refine w_tnil ?_ | refine w_tcons ?_
            | refine w_var (d := _) rfl rfl ?_ | refine w_varO (d := _) rfl rfl ?_ | refine w_lnv (d := _) rfl rfl ?_ | refine w_sbv (d0 := _) rfl ?_ | refine w_cio (d0 := _) rfl ?_ | refine w_app (l0 := _) rfl ?_ | refine w_st (d0 := _) rfl ?_ | refine w_retv (d := _) rfl ?_
            | refine w_nm (Nat.le_of_ble_eq_true rfl) ?_
            | refine ex_some (o_add _ _) ?_ | refine ex_some (o_sub _ _) ?_ | refine ex_some rfl ?_ | refine ex_int ?_ | refine ex_lst ?_ | refine ex_sbv rfl rfl rfl ?_ | refine ex_st rfl rfl rfl ?_
            | (refine ⟨(Nat.le_of_ble_eq_true rfl : _ ≤ lim), ?_⟩)))
          exact ⟨cs.dropLast.length, by omega, cs.dropLast, z, _, rfl, rfl, by omega, hg2, hz⟩
        · (repeat (first
            | refine w_bcons ?_ | refine w_asg ?_ | refine w_par ?_ | refine w_exp ?_ | refine w_ife ?_ | refine w_ret ?_ | refine w_bnil ?_ | refine w_brk ?_ | refine w_cnt ?_
            | refine w_con ?_ | refine w_bin ?_ | refine w_neg ?_ | refine w_not ?_ | refine w_and ?_ | refine w_or ?_ | refine w_ifx ?_ | refine w_cmp ?_ | refine w_chain ?_
            | refine w_anil ?_ | refine w_acons ?_ | refine w_tup ?_ | refine w_lst ?_ | refine w_sub ?_ | refine w_ono ?_ | refine w_oso ?_ | refine w_slice ?_ | refine w_blt ?_ | refine w_isi ?_
            | refine w_call ?_ | refine w_ckw ?_ | refine w_rvl ?_ | refine w_lrg ?_ | refine w_to ?_ | refine w_ft ?_ | refine w_it ?_ | refine w_rng ?_ | refine w_enu ?_ | refine w_comp ?_
            | refine w_tp ?_ | refine w_tnil ?_ | refine w_tcons ?_
            | refine w_var (d := _) rfl rfl ?_ | refine w_varO (d := _) rfl rfl ?_ | refine w_lnv (d := _) rfl rfl ?_ | refine w_sbv (d0 := _) rfl ?_ | refine w_cio (d0 := _) rfl ?_ | refine w_app (l0 := _) rfl ?_ | refine w_st (d0 := _) rfl ?_ | refine w_retv (d := _) rfl ?_
            | refine w_nm (Nat.le_of_ble_eq_true rfl) ?_
            | refine ex_some (o_add _ _) ?_ | refine ex_some (o_sub _ _) ?_ | refine ex_some rfl ?_ | refine ex_int ?_ | refine ex_lst ?_ | refine ex_sbv rfl rfl rfl ?_ | refine ex_st rfl rfl rfl ?_
            | (refine ⟨(Nat.le_of_ble_eq_true rfl : _ ≤ lim), ?_⟩)))
          exact ⟨cs.dropLast.length, by omega, cs.dropLast, 0, _, rfl, rfl, by omega, hg2, by decide⟩
    · exact ⟨_, rfl, fun _ => ⟨rfl, cs, b, rfl, g1, g2, g3, g4⟩, fun h => nomatch h⟩
  · subst eρ
    (repeat (first
      | refine w_bcons ?_ | refine w_asg ?_ | refine w_par ?_ | refine w_exp ?_ | refine w_ife ?_ | refine w_ret ?_ | refine w_bnil ?_ | refine w_brk ?_ | refine w_cnt ?_
      | refine w_con ?_ | refine w_bin ?_ | refine w_neg ?_ | refine w_not ?_ | refine w_and ?_ | refine w_or ?_ | refine w_ifx ?_ | refine w_cmp ?_ | refine w_chain ?_
      | refine w_anil ?_ | refine w_acons ?_ | refine w_tup ?_ | refine w_lst ?_ | refine w_sub ?_ | refine w_ono ?_ | refine w_oso ?_ | refine w_slice ?_ | refine w_blt ?_ | refine w_isi ?_
      | refine w_call ?_ | refine w_ckw ?_ | refine w_rvl ?_ | refine w_lrg ?_ | refine w_to ?_ | refine w_ft ?_ | refine w_it ?_ | refine w_rng ?_ | refine w_enu ?_ | refine w_comp ?_
      | refine w_tp ?_ | refine w_tnil ?_ | refine w_tcons ?_
      | refine w_var (d := _) rfl rfl ?_ | refine w_varO (d := _) rfl rfl ?_ | refine w_lnv (d := _) rfl rfl ?_ | refine w_sbv (d0 := _) rfl ?_ | refine w_cio (d0 := _) rfl ?_ | refine w_app (l0 := _) rfl ?_ | refine w_st (d0 := _) rfl ?_ | refine w_retv (d := _) rfl ?_
      | refine w_nm (Nat.le_of_ble_eq_true rfl) ?_
      | refine ex_some (o_add _ _) ?_ | refine ex_some (o_sub _ _) ?_ | refine ex_some rfl ?_ | refine ex_int ?_ | refine ex_lst ?_ | refine ex_sbv rfl rfl rfl ?_ | refine ex_st rfl rfl rfl ?_
      | (refine ⟨(Nat.le_of_ble_eq_true rfl : _ ≤ lim), ?_⟩)))
    refine ex_dec (fun hb => ?_) (fun hb => ?_)
    · have q1 : 0 ≤ b % w := Int.emod_nonneg _ (by omega)
      have q2 : b % w < w := Int.emod_lt_of_pos _ (by omega)
      have q3 : 0 ≤ b / w := Int.ediv_nonneg g3 (by omega)
      have q4 : b / w < 10 ^ 40 := Int.lt_of_le_of_lt (Int.ediv_le_self _ g3) g4
      (repeat (first
        | refine w_bcons ?_ | refine w_asg ?_ | refine w_par ?_ | refine w_exp ?_ | refine w_ife ?_ | refine w_ret ?_ | refine w_bnil ?_ | refine w_brk ?_ | refine w_cnt ?_
        | refine w_con ?_ | refine w_bin ?_ | refine w_neg ?_ | refine w_not ?_ | refine w_and ?_ | refine w_or ?_ | refine w_ifx ?_ | refine w_cmp ?_ | refine w_chain ?_
        | refine w_anil ?_ | refine w_acons ?_ | refine w_tup ?_ | refine w_lst ?_ | refine w_sub ?_ | refine w_ono ?_ | refine w_oso ?_ | refine w_slice ?_ | refine w_blt ?_ | refine w_isi ?_
        | refine w_call ?_ | refine w_ckw ?_ | refine w_rvl ?_ | refine w_lrg ?_ | refine w_to ?_ | refine w_ft ?_ | refine w_it ?_ | refine w_rng ?_ | refine w_enu ?_ | refine w_comp ?_
        | refine w_tp ?_ | refine w_tnil ?_ | refine w_tcons ?_
        | refine w_var (d := _) rfl rfl ?_ | refine w_varO (d := _) rfl rfl ?_ | refine w_lnv (d := _) rfl rfl ?_ | refine w_sbv (d0 := _) rfl ?_ | refine w_cio (d0 := _) rfl ?_ | refine w_app (l0 := _) rfl ?_ | refine w_st (d0 := _) rfl ?_ | refine w_retv (d := _) rfl ?_
        | refine w_nm (Nat.le_of_ble_eq_true rfl) ?_
        | refine ex_some (o_add _ _) ?_ | refine ex_some (o_sub _ _) ?_ | refine ex_some rfl ?_ | refine ex_int ?_ | refine ex_lst ?_ | refine ex_sbv rfl rfl rfl ?_ | refine ex_st rfl rfl rfl ?_
        | (refine ⟨(Nat.le_of_ble_eq_true rfl : _ ≤ lim), ?_⟩)))
      refine ex_some (o_mod (by omega)) ?_
      (repeat (first
        | refine w_bcons ?_ | refine w_asg ?_ | refine w_par ?_ | refine w_exp ?_ | refine w_ife ?_ | refine w_ret ?_ | refine w_bnil ?_ | refine w_brk ?_ | refine w_cnt ?_
        | refine w_con ?_ | refine w_bin ?_ | refine w_neg ?_ | refine w_not ?_ | refine w_and ?_ | refine w_or ?_ | refine w_ifx ?_ | refine w_cmp ?_ | refine w_chain ?_
        | refine w_anil ?_ | refine w_acons ?_ | refine w_tup ?_ | refine w_lst ?_ | refine w_sub ?_ | refine w_ono ?_ | refine w_oso ?_ | refine w_slice ?_ | refine w_blt ?_ | refine w_isi ?_
        | refine w_call ?_ | refine w_ckw ?_ | refine w_rvl ?_ | refine w_lrg ?_ | refine w_to ?_ | refine w_ft ?_ | refine w_it ?_ | refine w_rng ?_ | refine w_enu ?_ | refine w_comp ?_
        | refine w_tp ?_ | refine w_tnil ?_ | refine w_tcons ?_
        | refine w_var (d := _) rfl rfl ?_ | refine w_varO (d := _) rfl rfl ?_ | refine w_lnv (d := _) rfl rfl ?_ | refine w_sbv (d0 := _) rfl ?_ | refine w_cio (d0 := _) rfl ?_ | refine w_app (l0 := _) rfl ?_ | refine w_st (d0 := _) rfl ?_ | refine w_retv (d := _) rfl ?_
        | refine w_nm (Nat.le_of_ble_eq_true rfl) ?_
        | refine ex_some (o_add _ _) ?_ | refine ex_some (o_sub _ _) ?_ | refine ex_some rfl ?_ | refine ex_int ?_ | refine ex_lst ?_ | refine ex_sbv rfl rfl rfl ?_ | refine ex_st rfl rfl rfl ?_
        | (refine ⟨(Nat.le_of_ble_eq_true rfl : _ ≤ lim), ?_⟩)))
      refine ex_some (o_fdiv ⟨by omega, Nat.lt_of_lt_of_le (log_lt (k := 200) (by omega) (Int.lt_of_le_of_lt hw2 (by decide)) (by decide)) (by decide)⟩) ?_
      (repeat (first
        | refine w_bcons ?_ | refine w_asg ?_ | refine w_par ?_ | refine w_exp ?_ | refine w_ife ?_ | refine w_ret ?_ | refine w_bnil ?_ | refine w_brk ?_ | refine w_cnt ?_
        | refine w_con ?_ | refine w_bin ?_ | refine w_neg ?_ | refine w_not ?_ | refine w_and ?_ | refine w_or ?_ | refine w_ifx ?_ | refine w_cmp ?_ | refine w_chain ?_
        | refine w_anil ?_ | refine w_acons ?_ | refine w_tup ?_ | refine w_lst ?_ | refine w_sub ?_ | refine w_ono ?_ | refine w_oso ?_ | refine w_slice ?_ | refine w_blt ?_ | refine w_isi ?_
        | refine w_call ?_ | refine w_ckw ?_ | refine w_rvl ?_ | refine w_lrg ?_ | refine w_to ?_ | refine w_ft ?_ | refine w_it ?_ | refine w_rng ?_ | refine w_enu ?_ | refine w_comp ?_
        | refine w_tp ?_ | refine w_tnil ?_ | refine w_tcons ?_
        | refine w_var (d := _) rfl rfl ?_ | refine w_varO (d := _) rfl rfl ?_ | refine w_lnv (d := _) rfl rfl ?_ | refine w_sbv (d0 := _) rfl ?_ | refine w_cio (d0 := _) rfl ?_ | refine w_app (l0 := _) rfl ?_ | refine w_st (d0 := _) rfl ?_ | refine w_retv (d := _) rfl ?_
        | refine w_nm (Nat.le_of_ble_eq_true rfl) ?_
        | refine ex_some (o_add _ _) ?_ | refine ex_some (o_sub _ _) ?_ | refine ex_some rfl ?_ | refine ex_int ?_ | refine ex_lst ?_ | refine ex_sbv rfl rfl rfl ?_ | refine ex_st rfl rfl rfl ?_
        | (refine ⟨(Nat.le_of_ble_eq_true rfl : _ ≤ lim), ?_⟩)))
      exact ⟨_, rfl, _, rfl, q1, q2, bag_ok g1 g2 q3 q4 h5 h6⟩
    · (repeat (first
        | refine w_bcons ?_ | refine w_asg ?_ | refine w_par ?_ | refine w_exp ?_ | refine w_ife ?_ | refine w_ret ?_ | refine w_bnil ?_ | refine w_brk ?_ | refine w_cnt ?_
        | refine w_con ?_ | refine w_bin ?_ | refine w_neg ?_ | refine w_not ?_ | refine w_and ?_ | refine w_or ?_ | refine w_ifx ?_ | refine w_cmp ?_ | refine w_chain ?_
        | refine w_anil ?_ | refine w_acons ?_ | refine w_tup ?_ | refine w_lst ?_ | refine w_sub ?_ | refine w_ono ?_ | refine w_oso ?_ | refine w_slice ?_ | refine w_blt ?_ | refine w_isi ?_
        | refine w_call ?_ | refine w_ckw ?_ | refine w_rvl ?_ | refine w_lrg ?_ | refine w_to ?_ | refine w_ft ?_ | refine w_it ?_ | refine w_rng ?_ | refine w_enu ?_ | refine w_comp ?_
        | refine w_tp ?_ | refine w_tnil ?_ | refine w_tcons ?_
        | refine w_var (d := _) rfl rfl ?_ | refine w_varO (d := _) rfl rfl ?_ | refine w_lnv (d := _) rfl rfl ?_ | refine w_sbv (d0 := _) rfl ?_ | refine w_cio (d0 := _) rfl ?_ | refine w_app (l0 := _) rfl ?_ | refine w_st (d0 := _) rfl ?_ | refine w_retv (d := _) rfl ?_
        | refine w_nm (Nat.le_of_ble_eq_true rfl) ?_
        | refine ex_some (o_add _ _) ?_ | refine ex_some (o_sub _ _) ?_ | refine ex_some rfl ?_ | refine ex_int ?_ | refine ex_lst ?_ | refine ex_sbv rfl rfl rfl ?_ | refine ex_st rfl rfl rfl ?_
        | (refine ⟨(Nat.le_of_ble_eq_true rfl : _ ≤ lim), ?_⟩)))
      have r1 : (0 : Int) ≤ (m * 48271 + 11) % 2147483647 := Int.emod_nonneg _ (by decide)
      have r2 : (m * 48271 + 11) % 2147483647 < 2147483647 := Int.emod_lt_of_pos _ (by decide)
      refine ex_some (o_mulS (by omega) (by omega) (by decide) (by decide)) ?_
      (repeat (first
        | refine w_bcons ?_ | refine w_asg ?_ | refine w_par ?_ | refine w_exp ?_ | refine w_ife ?_ | refine w_ret ?_ | refine w_bnil ?_ | refine w_brk ?_ | refine w_cnt ?_
        | refine w_con ?_ | refine w_bin ?_ | refine w_neg ?_ | refine w_not ?_ | refine w_and ?_ | refine w_or ?_ | refine w_ifx ?_ | refine w_cmp ?_ | refine w_chain ?_
        | refine w_anil ?_ | refine w_acons ?_ | refine w_tup ?_ | refine w_lst ?_ | refine w_sub ?_ | refine w_ono ?_ | refine w_oso ?_ | refine w_slice ?_ | refine w_blt ?_ | refine w_isi ?_
        | refine w_call ?_ | refine w_ckw ?_ | refine w_rvl ?_ | refine w_lrg ?_ | refine w_to ?_ | refine w_ft ?_ | refine w_it ?_ | refine w_rng ?_ | refine w_enu ?_ | refine w_comp ?_
        | refine w_tp ?_ | refine w_tnil ?_ | refine w_tcons ?_
        | refine w_var (d := _) rfl rfl ?_ | refine w_varO (d := _) rfl rfl ?_ | refine w_lnv (d := _) rfl rfl ?_ | refine w_sbv (d0 := _) rfl ?_ | refine w_cio (d0 := _) rfl ?_ | refine w_app (l0 := _) rfl ?_ | refine w_st (d0 := _) rfl ?_ | refine w_retv (d := _) rfl ?_
        | refine w_nm (Nat.le_of_ble_eq_true rfl) ?_
        | refine ex_some (o_add _ _) ?_ | refine ex_some (o_sub _ _) ?_ | refine ex_some rfl ?_ | refine ex_int ?_ | refine ex_lst ?_ | refine ex_sbv rfl rfl rfl ?_ | refine ex_st rfl rfl rfl ?_
        | (refine ⟨(Nat.le_of_ble_eq_true rfl : _ ≤ lim), ?_⟩)))
      generalize (m * 48271 + 11) % 2147483647 = m' at r1 r2
      refine ex_some (o_mulS (by omega) (by omega) (by omega) (by omega)) ?_
      (repeat (first
        | refine w_bcons ?_ | refine w_asg ?_ | refine w_par ?_ | refine w_exp ?_ | refine w_ife ?_ | refine w_ret ?_ | refine w_bnil ?_ | refine w_brk ?_ | refine w_cnt ?_
        | refine w_con ?_ | refine w_bin ?_ | refine w_neg ?_ | refine w_not ?_ | refine w_and ?_ | refine w_or ?_ | refine w_ifx ?_ | refine w_cmp ?_ | refine w_chain ?_
        | refine w_anil ?_ | refine w_acons ?_ | refine w_tup ?_ | refine w_lst ?_ | refine w_sub ?_ | refine w_ono ?_ | refine w_oso ?_ | refine w_slice ?_ | refine w_blt ?_ | refine w_isi ?_
        | refine w_call ?_ | refine w_ckw ?_ | refine w_rvl ?_ | refine w_lrg ?_ | refine w_to ?_ | refine w_ft ?_ | refine w_it ?_ | refine w_rng ?_ | refine w_enu ?_ | refine w_comp ?_
        | refine w_tp ?_ | refine w_tnil ?_ | refine w_tcons ?_
        | refine w_var (d := _) rfl rfl ?_ | refine w_varO (d := _) rfl rfl ?_ | refine w_lnv (d := _) rfl rfl ?_ | refine w_sbv (d0 := _) rfl ?_ | refine w_cio (d0 := _) rfl ?_ | refine w_app (l0 := _) rfl ?_ | refine w_st (d0 := _) rfl ?_ | refine w_retv (d := _) rfl ?_
        | refine w_nm (Nat.le_of_ble_eq_true rfl) ?_
        | refine ex_some (o_add _ _) ?_ | refine ex_some (o_sub _ _) ?_ | refine ex_some rfl ?_ | refine ex_int ?_ | refine ex_lst ?_ | refine ex_sbv rfl rfl rfl ?_ | refine ex_st rfl rfl rfl ?_
        | (refine ⟨(Nat.le_of_ble_eq_true rfl : _ ≤ lim), ?_⟩)))
      refine ex_some (o_mod (by omega)) ?_
      exact ⟨_, rfl, _, rfl, Int.emod_nonneg _ (by omega), Int.emod_lt_of_pos _ (by omega), bag_ok g1 g2 g3 g4 r1 r2⟩
end R49

namespace R49
open PySem PySem.Spec Rr
def Bg (l : List D) : Prop := Bag (.lst true l)
theorem Bag.lst {x : D} (h : Bag x) : ∃ l, x = .lst true l ∧ Bg l := by
  obtain ⟨cs, b, m, rfl, h1⟩ := h.ex
  exact ⟨_, rfl, h⟩
/-- who draws -/
def DrawOk (C : Fn) : Prop := ∀ (l : List D) (w : Int), Bg l → 1 ≤ w → w ≤ 10 ^ 40 → ∃ r l', C 9 [.lst true l, .int w] = some (.int r, [.lst true l']) ∧ 0 ≤ r ∧ r < w ∧ Bg l'
theorem draw_ok (k : Nat) : DrawOk (callN fs (k + 1)) := fun l w hb h1 h2 => by
  obtain ⟨d, x', e, r, rfl, q1, q2, hx⟩ := draw (callN fs k) hb h1 h2
  obtain ⟨l', rfl, hl⟩ := Bag.lst hx
  exact ⟨r, l', by rw [callN_eq (F := m__law_draw) rfl]; exact e, q1, q2, hl⟩
/-- one of a list of things -/
def PickOk (C : Fn) : Prop := ∀ (l xs : List D), Bg l → xs ≠ [] → xs.length ≤ 1000000 → (∀ d ∈ xs, d.isOwn = false) → ∃ z l', C 10 [.lst true l, .lst false xs] = some (z, [.lst true l']) ∧ z ∈ xs ∧ Bg l'
theorem pick_ok (k : Nat) : PickOk (callN fs (k + 2)) := fun l xs hb hne hl ho => by
  rw [callN_eq (F := m__law_pick) rfl]
  have hd := draw_ok k
  have hpos : 0 < xs.length := List.length_pos_iff.mpr hne
  obtain ⟨r, l1, e1, q1, q2, g1⟩ := hd l xs.length hb (by omega) (by omega)
  have := w_runio (C := callN fs (k + 1)) (F := m__law_pick) (ds := [.lst true l, .lst false xs]) (Q := fun d x' => d ∈ xs ∧ ∃ l', x' = .lst true l' ∧ Bg l') rfl (by decide) rfl ?_
  · obtain ⟨d, x', e, hm, l', rfl, g⟩ := this
    exact ⟨d, l', e, hm, g⟩
  · show wB _ _ [some (.lst true l), some (.lst false xs)] _
    refine w_bcons (w_ret (w_sbv (d0 := .lst false xs) rfl (w_cio (d0 := .lst true l) rfl (w_acons (w_lnv (d := .lst false xs) rfl rfl (w_anil ⟨l, .int r, l1, rfl, e1, ?_⟩))))))
    have hat : itemD (.lst false xs) (.int r) = some (xs[r.toNat]'(by omega)) := by
      have := atI_nat' (xs := xs) (k := r.toNat) (by omega)
      rw [Int.toNat_of_nonneg q1] at this
      exact this
    have hmem : xs[r.toNat]'(by omega) ∈ xs := List.getElem_mem (by omega)
    exact ⟨.lst false xs, _, rfl, hat, ho _ hmem, _, rfl, hmem, _, rfl, g1⟩
theorem isnum (C : Fn) {i : Int} (h : Sm i) : runF C m__law_is_number [.int i, .int i] = some (.bl true, []) := by
  refine w_run rfl (by decide) rfl ?_
  show wB C _ [some (.int i), some (.int i)] _
  (repeat (first
    | refine w_bcons ?_ | refine w_asg ?_ | refine w_par ?_ | refine w_exp ?_ | refine w_ife ?_ | refine w_ret ?_ | refine w_bnil ?_ | refine w_brk ?_ | refine w_cnt ?_
    | refine w_con ?_ | refine w_bin ?_ | refine w_neg ?_ | refine w_not ?_ | refine w_and ?_ | refine w_or ?_ | refine w_ifx ?_ | refine w_cmp ?_ | refine w_chain ?_
    | refine w_anil ?_ | refine w_acons ?_ | refine w_tup ?_ | refine w_lst ?_ | refine w_sub ?_ | refine w_ono ?_ | refine w_oso ?_ | refine w_slice ?_ | refine w_blt ?_ | refine w_isi ?_
    | refine w_call ?_ | refine w_ckw ?_ | refine w_rvl ?_ | refine w_lrg ?_ | refine w_to ?_ | refine w_ft ?_ | refine w_it ?_ | refine w_rng ?_ | refine w_enu ?_ | refine w_comp ?_
    | refine w_tp ?_ | refine w_tnil ?_ | refine w_tcons ?_
    | refine w_var (d := _) rfl rfl ?_ | refine w_varO (d := _) rfl rfl ?_ | refine w_lnv (d := _) rfl rfl ?_ | refine w_sbv (d0 := _) rfl ?_ | refine w_cio (d0 := _) rfl ?_ | refine w_app (l0 := _) rfl ?_ | refine w_st (d0 := _) rfl ?_ | refine w_retv (d := _) rfl ?_
    | refine w_nm (Nat.le_of_ble_eq_true rfl) ?_
    | refine ex_some (o_add _ _) ?_ | refine ex_some (o_sub _ _) ?_ | refine ex_some rfl ?_ | refine ex_int ?_ | refine ex_lst ?_ | refine ex_sbv rfl rfl rfl ?_ | refine ex_st rfl rfl rfl ?_
    | (refine ⟨(Nat.le_of_ble_eq_true rfl : _ ≤ lim), ?_⟩)))
  refine ⟨_, rfl, fun _ => ?_, fun h => nomatch h⟩
  (repeat (first
    | refine w_bcons ?_ | refine w_asg ?_ | refine w_par ?_ | refine w_exp ?_ | refine w_ife ?_ | refine w_ret ?_ | refine w_bnil ?_ | refine w_brk ?_ | refine w_cnt ?_
    | refine w_con ?_ | refine w_bin ?_ | refine w_neg ?_ | refine w_not ?_ | refine w_and ?_ | refine w_or ?_ | refine w_ifx ?_ | refine w_cmp ?_ | refine w_chain ?_
    | refine w_anil ?_ | refine w_acons ?_ | refine w_tup ?_ | refine w_lst ?_ | refine w_sub ?_ | refine w_ono ?_ | refine w_oso ?_ | refine w_slice ?_ | refine w_blt ?_ | refine w_isi ?_
    | refine w_call ?_ | refine w_ckw ?_ | refine w_rvl ?_ | refine w_lrg ?_ | refine w_to ?_ | refine w_ft ?_ | refine w_it ?_ | refine w_rng ?_ | refine w_enu ?_ | refine w_comp ?_
    | refine w_tp ?_ | refine w_tnil ?_ | refine w_tcons ?_
    | refine w_var (d := _) rfl rfl ?_ | refine w_varO (d := _) rfl rfl ?_ | refine w_lnv (d := _) rfl rfl ?_ | refine w_sbv (d0 := _) rfl ?_ | refine w_cio (d0 := _) rfl ?_ | refine w_app (l0 := _) rfl ?_ | refine w_st (d0 := _) rfl ?_ | refine w_retv (d := _) rfl ?_
    | refine w_nm (Nat.le_of_ble_eq_true rfl) ?_
    | refine ex_some (o_add _ _) ?_ | refine ex_some (o_sub _ _) ?_ | refine ex_some rfl ?_ | refine ex_int ?_ | refine ex_lst ?_ | refine ex_sbv rfl rfl rfl ?_ | refine ex_st rfl rfl rfl ?_
    | (refine ⟨(Nat.le_of_ble_eq_true rfl : _ ≤ lim), ?_⟩)))
  refine ex_bl ?_
  refine ⟨_, rfl, fun _ => ?_, fun h => nomatch h⟩
  (repeat (first
    | refine w_bcons ?_ | refine w_asg ?_ | refine w_par ?_ | refine w_exp ?_ | refine w_ife ?_ | refine w_ret ?_ | refine w_bnil ?_ | refine w_brk ?_ | refine w_cnt ?_
    | refine w_con ?_ | refine w_bin ?_ | refine w_neg ?_ | refine w_not ?_ | refine w_and ?_ | refine w_or ?_ | refine w_ifx ?_ | refine w_cmp ?_ | refine w_chain ?_
    | refine w_anil ?_ | refine w_acons ?_ | refine w_tup ?_ | refine w_lst ?_ | refine w_sub ?_ | refine w_ono ?_ | refine w_oso ?_ | refine w_slice ?_ | refine w_blt ?_ | refine w_isi ?_
    | refine w_call ?_ | refine w_ckw ?_ | refine w_rvl ?_ | refine w_lrg ?_ | refine w_to ?_ | refine w_ft ?_ | refine w_it ?_ | refine w_rng ?_ | refine w_enu ?_ | refine w_comp ?_
    | refine w_tp ?_ | refine w_tnil ?_ | refine w_tcons ?_
    | refine w_var (d := _) rfl rfl ?_ | refine w_varO (d := _) rfl rfl ?_ | refine w_lnv (d := _) rfl rfl ?_ | refine w_sbv (d0 := _) rfl ?_ | refine w_cio (d0 := _) rfl ?_ | refine w_app (l0 := _) rfl ?_ | refine w_st (d0 := _) rfl ?_ | refine w_retv (d := _) rfl ?_
    | refine w_nm (Nat.le_of_ble_eq_true rfl) ?_
    | refine ex_some (o_add _ _) ?_ | refine ex_some (o_sub _ _) ?_ | refine ex_some rfl ?_ | refine ex_int ?_ | refine ex_lst ?_ | refine ex_sbv rfl rfl rfl ?_ | refine ex_st rfl rfl rfl ?_
    | (refine ⟨(Nat.le_of_ble_eq_true rfl : _ ≤ lim), ?_⟩)))
  refine ex_some (repr_int h) ?_
  (repeat (first
    | refine w_bcons ?_ | refine w_asg ?_ | refine w_par ?_ | refine w_exp ?_ | refine w_ife ?_ | refine w_ret ?_ | refine w_bnil ?_ | refine w_brk ?_ | refine w_cnt ?_
    | refine w_con ?_ | refine w_bin ?_ | refine w_neg ?_ | refine w_not ?_ | refine w_and ?_ | refine w_or ?_ | refine w_ifx ?_ | refine w_cmp ?_ | refine w_chain ?_
    | refine w_anil ?_ | refine w_acons ?_ | refine w_tup ?_ | refine w_lst ?_ | refine w_sub ?_ | refine w_ono ?_ | refine w_oso ?_ | refine w_slice ?_ | refine w_blt ?_ | refine w_isi ?_
    | refine w_call ?_ | refine w_ckw ?_ | refine w_rvl ?_ | refine w_lrg ?_ | refine w_to ?_ | refine w_ft ?_ | refine w_it ?_ | refine w_rng ?_ | refine w_enu ?_ | refine w_comp ?_
    | refine w_tp ?_ | refine w_tnil ?_ | refine w_tcons ?_
    | refine w_var (d := _) rfl rfl ?_ | refine w_varO (d := _) rfl rfl ?_ | refine w_lnv (d := _) rfl rfl ?_ | refine w_sbv (d0 := _) rfl ?_ | refine w_cio (d0 := _) rfl ?_ | refine w_app (l0 := _) rfl ?_ | refine w_st (d0 := _) rfl ?_ | refine w_retv (d := _) rfl ?_
    | refine w_nm (Nat.le_of_ble_eq_true rfl) ?_
    | refine ex_some (o_add _ _) ?_ | refine ex_some (o_sub _ _) ?_ | refine ex_some rfl ?_ | refine ex_int ?_ | refine ex_lst ?_ | refine ex_sbv rfl rfl rfl ?_ | refine ex_st rfl rfl rfl ?_
    | (refine ⟨(Nat.le_of_ble_eq_true rfl : _ ≤ lim), ?_⟩)))
  refine ex_some (repr_int h) ?_
  (repeat (first
    | refine w_bcons ?_ | refine w_asg ?_ | refine w_par ?_ | refine w_exp ?_ | refine w_ife ?_ | refine w_ret ?_ | refine w_bnil ?_ | refine w_brk ?_ | refine w_cnt ?_
    | refine w_con ?_ | refine w_bin ?_ | refine w_neg ?_ | refine w_not ?_ | refine w_and ?_ | refine w_or ?_ | refine w_ifx ?_ | refine w_cmp ?_ | refine w_chain ?_
    | refine w_anil ?_ | refine w_acons ?_ | refine w_tup ?_ | refine w_lst ?_ | refine w_sub ?_ | refine w_ono ?_ | refine w_oso ?_ | refine w_slice ?_ | refine w_blt ?_ | refine w_isi ?_
    | refine w_call ?_ | refine w_ckw ?_ | refine w_rvl ?_ | refine w_lrg ?_ | refine w_to ?_ | refine w_ft ?_ | refine w_it ?_ | refine w_rng ?_ | refine w_enu ?_ | refine w_comp ?_
    | refine w_tp ?_ | refine w_tnil ?_ | refine w_tcons ?_
    | refine w_var (d := _) rfl rfl ?_ | refine w_varO (d := _) rfl rfl ?_ | refine w_lnv (d := _) rfl rfl ?_ | refine w_sbv (d0 := _) rfl ?_ | refine w_cio (d0 := _) rfl ?_ | refine w_app (l0 := _) rfl ?_ | refine w_st (d0 := _) rfl ?_ | refine w_retv (d := _) rfl ?_
    | refine w_nm (Nat.le_of_ble_eq_true rfl) ?_
    | refine ex_some (o_add _ _) ?_ | refine ex_some (o_sub _ _) ?_ | refine ex_some rfl ?_ | refine ex_int ?_ | refine ex_lst ?_ | refine ex_sbv rfl rfl rfl ?_ | refine ex_st rfl rfl rfl ?_
    | (refine ⟨(Nat.le_of_ble_eq_true rfl : _ ≤ lim), ?_⟩)))
  show D.bl (decide _) = D.bl true
  rw [decide_eq_true rfl]
theorem isrow (C : Fn) {xs : List Int} (hl : xs.length ≤ 1000) (h : ∀ i ∈ xs, Sm i) : runF C m__law_is_row [iT xs, iT xs] = some (.bl true, []) := by
  refine w_run rfl (by decide) rfl ?_
  show wB C _ [some (iT xs), some (iT xs), none] _
  refine w_bcons (w_ife (w_or ?_))
  (repeat (first
    | refine w_bcons ?_ | refine w_asg ?_ | refine w_par ?_ | refine w_exp ?_ | refine w_ife ?_ | refine w_ret ?_ | refine w_bnil ?_ | refine w_brk ?_ | refine w_cnt ?_
    | refine w_con ?_ | refine w_bin ?_ | refine w_neg ?_ | refine w_not ?_ | refine w_and ?_ | refine w_or ?_ | refine w_ifx ?_ | refine w_cmp ?_ | refine w_chain ?_
    | refine w_anil ?_ | refine w_acons ?_ | refine w_tup ?_ | refine w_lst ?_ | refine w_sub ?_ | refine w_ono ?_ | refine w_oso ?_ | refine w_slice ?_ | refine w_blt ?_ | refine w_isi ?_
    | refine w_call ?_ | refine w_ckw ?_ | refine w_rvl ?_ | refine w_lrg ?_ | refine w_to ?_ | refine w_ft ?_ | refine w_it ?_ | refine w_rng ?_ | refine w_enu ?_ | refine w_comp ?_
    | refine w_tp ?_ | refine w_tnil ?_ | refine w_tcons ?_
    | refine w_var (d := _) rfl rfl ?_ | refine w_varO (d := _) rfl rfl ?_ | refine w_lnv (d := _) rfl rfl ?_ | refine w_sbv (d0 := _) rfl ?_ | refine w_cio (d0 := _) rfl ?_ | refine w_app (l0 := _) rfl ?_ | refine w_st (d0 := _) rfl ?_ | refine w_retv (d := _) rfl ?_
    | refine w_nm (Nat.le_of_ble_eq_true rfl) ?_
    | refine ex_some (o_add _ _) ?_ | refine ex_some (o_sub _ _) ?_ | refine ex_some rfl ?_ | refine ex_int ?_ | refine ex_lst ?_ | refine ex_sbv rfl rfl rfl ?_ | refine ex_st rfl rfl rfl ?_
    | (refine ⟨(Nat.le_of_ble_eq_true rfl : _ ≤ lim), ?_⟩)))
  refine ex_bl ?_
  refine ⟨_, rfl, fun h => (nomatch h), fun _ => ?_⟩
  (repeat (first
    | refine w_bcons ?_ | refine w_asg ?_ | refine w_par ?_ | refine w_exp ?_ | refine w_ife ?_ | refine w_ret ?_ | refine w_bnil ?_ | refine w_brk ?_ | refine w_cnt ?_
    | refine w_con ?_ | refine w_bin ?_ | refine w_neg ?_ | refine w_not ?_ | refine w_and ?_ | refine w_or ?_ | refine w_ifx ?_ | refine w_cmp ?_ | refine w_chain ?_
    | refine w_anil ?_ | refine w_acons ?_ | refine w_tup ?_ | refine w_lst ?_ | refine w_sub ?_ | refine w_ono ?_ | refine w_oso ?_ | refine w_slice ?_ | refine w_blt ?_ | refine w_isi ?_
    | refine w_call ?_ | refine w_ckw ?_ | refine w_rvl ?_ | refine w_lrg ?_ | refine w_to ?_ | refine w_ft ?_ | refine w_it ?_ | refine w_rng ?_ | refine w_enu ?_ | refine w_comp ?_
    | refine w_tp ?_ | refine w_tnil ?_ | refine w_tcons ?_
    | refine w_var (d := _) rfl rfl ?_ | refine w_varO (d := _) rfl rfl ?_ | refine w_lnv (d := _) rfl rfl ?_ | refine w_sbv (d0 := _) rfl ?_ | refine w_cio (d0 := _) rfl ?_ | refine w_app (l0 := _) rfl ?_ | refine w_st (d0 := _) rfl ?_ | refine w_retv (d := _) rfl ?_
    | refine w_nm (Nat.le_of_ble_eq_true rfl) ?_
    | refine ex_some (o_add _ _) ?_ | refine ex_some (o_sub _ _) ?_ | refine ex_some rfl ?_ | refine ex_int ?_ | refine ex_lst ?_ | refine ex_sbv rfl rfl rfl ?_ | refine ex_st rfl rfl rfl ?_
    | (refine ⟨(Nat.le_of_ble_eq_true rfl : _ ≤ lim), ?_⟩)))
  refine ex_not (by simp) ?_
  refine w_bnil ?_
  refine w_bcons (w_ife (w_not (w_blt (w_comp ?_))))
  (repeat (first
    | refine w_bcons ?_ | refine w_asg ?_ | refine w_par ?_ | refine w_exp ?_ | refine w_ife ?_ | refine w_ret ?_ | refine w_bnil ?_ | refine w_brk ?_ | refine w_cnt ?_
    | refine w_con ?_ | refine w_bin ?_ | refine w_neg ?_ | refine w_not ?_ | refine w_and ?_ | refine w_or ?_ | refine w_ifx ?_ | refine w_cmp ?_ | refine w_chain ?_
    | refine w_anil ?_ | refine w_acons ?_ | refine w_tup ?_ | refine w_lst ?_ | refine w_sub ?_ | refine w_ono ?_ | refine w_oso ?_ | refine w_slice ?_ | refine w_blt ?_ | refine w_isi ?_
    | refine w_call ?_ | refine w_ckw ?_ | refine w_rvl ?_ | refine w_lrg ?_ | refine w_to ?_ | refine w_ft ?_ | refine w_it ?_ | refine w_rng ?_ | refine w_enu ?_ | refine w_comp ?_
    | refine w_tp ?_ | refine w_tnil ?_ | refine w_tcons ?_
    | refine w_var (d := _) rfl rfl ?_ | refine w_varO (d := _) rfl rfl ?_ | refine w_lnv (d := _) rfl rfl ?_ | refine w_sbv (d0 := _) rfl ?_ | refine w_cio (d0 := _) rfl ?_ | refine w_app (l0 := _) rfl ?_ | refine w_st (d0 := _) rfl ?_ | refine w_retv (d := _) rfl ?_
    | refine w_nm (Nat.le_of_ble_eq_true rfl) ?_
    | refine ex_some (o_add _ _) ?_ | refine ex_some (o_sub _ _) ?_ | refine ex_some rfl ?_ | refine ex_int ?_ | refine ex_lst ?_ | refine ex_sbv rfl rfl rfl ?_ | refine ex_st rfl rfl rfl ?_
    | (refine ⟨(Nat.le_of_ble_eq_true rfl : _ ≤ lim), ?_⟩)))
  refine ⟨by rw [List.length_map]; show _ ≤ 1000000; omega, wC_map (fun _ => .bl true) (fun d hd => ?_) ?_⟩
  · obtain ⟨i, hi, rfl⟩ := List.mem_map.mp hd
    refine w_nm (Nat.le_of_ble_eq_true rfl) ?_
    show wE C _ [some (iT xs), some (iT xs), some (.int i)] _
    (repeat (first
      | refine w_bcons ?_ | refine w_asg ?_ | refine w_par ?_ | refine w_exp ?_ | refine w_ife ?_ | refine w_ret ?_ | refine w_bnil ?_ | refine w_brk ?_ | refine w_cnt ?_
      | refine w_con ?_ | refine w_bin ?_ | refine w_neg ?_ | refine w_not ?_ | refine w_and ?_ | refine w_or ?_ | refine w_ifx ?_ | refine w_cmp ?_ | refine w_chain ?_
      | refine w_anil ?_ | refine w_acons ?_ | refine w_tup ?_ | refine w_lst ?_ | refine w_sub ?_ | refine w_ono ?_ | refine w_oso ?_ | refine w_slice ?_ | refine w_blt ?_ | refine w_isi ?_
      | refine w_call ?_ | refine w_ckw ?_ | refine w_rvl ?_ | refine w_lrg ?_ | refine w_to ?_ | refine w_ft ?_ | refine w_it ?_ | refine w_rng ?_ | refine w_enu ?_ | refine w_comp ?_
      | refine w_tp ?_ | refine w_tnil ?_ | refine w_tcons ?_
      | refine w_var (d := _) rfl rfl ?_ | refine w_varO (d := _) rfl rfl ?_ | refine w_lnv (d := _) rfl rfl ?_ | refine w_sbv (d0 := _) rfl ?_ | refine w_cio (d0 := _) rfl ?_ | refine w_app (l0 := _) rfl ?_ | refine w_st (d0 := _) rfl ?_ | refine w_retv (d := _) rfl ?_
      | refine w_nm (Nat.le_of_ble_eq_true rfl) ?_
      | refine ex_some (o_add _ _) ?_ | refine ex_some (o_sub _ _) ?_ | refine ex_some rfl ?_ | refine ex_int ?_ | refine ex_lst ?_ | refine ex_sbv rfl rfl rfl ?_ | refine ex_st rfl rfl rfl ?_
      | (refine ⟨(Nat.le_of_ble_eq_true rfl : _ ≤ lim), ?_⟩)))
    refine ⟨_, rfl, fun _ => ?_, fun h => nomatch h⟩
    (repeat (first
      | refine w_bcons ?_ | refine w_asg ?_ | refine w_par ?_ | refine w_exp ?_ | refine w_ife ?_ | refine w_ret ?_ | refine w_bnil ?_ | refine w_brk ?_ | refine w_cnt ?_
      | refine w_con ?_ | refine w_bin ?_ | refine w_neg ?_ | refine w_not ?_ | refine w_and ?_ | refine w_or ?_ | refine w_ifx ?_ | refine w_cmp ?_ | refine w_chain ?_
      | refine w_anil ?_ | refine w_acons ?_ | refine w_tup ?_ | refine w_lst ?_ | refine w_sub ?_ | refine w_ono ?_ | refine w_oso ?_ | refine w_slice ?_ | refine w_blt ?_ | refine w_isi ?_
      | refine w_call ?_ | refine w_ckw ?_ | refine w_rvl ?_ | refine w_lrg ?_ | refine w_to ?_ | refine w_ft ?_ | refine w_it ?_ | refine w_rng ?_ | refine w_enu ?_ | refine w_comp ?_
      | refine w_tp ?_ | refine w_tnil ?_ | refine w_tcons ?_
      | refine w_var (d := _) rfl rfl ?_ | refine w_varO (d := _) rfl rfl ?_ | refine w_lnv (d := _) rfl rfl ?_ | refine w_sbv (d0 := _) rfl ?_ | refine w_cio (d0 := _) rfl ?_ | refine w_app (l0 := _) rfl ?_ | refine w_st (d0 := _) rfl ?_ | refine w_retv (d := _) rfl ?_
      | refine w_nm (Nat.le_of_ble_eq_true rfl) ?_
      | refine ex_some (o_add _ _) ?_ | refine ex_some (o_sub _ _) ?_ | refine ex_some rfl ?_ | refine ex_int ?_ | refine ex_lst ?_ | refine ex_sbv rfl rfl rfl ?_ | refine ex_st rfl rfl rfl ?_
      | (refine ⟨(Nat.le_of_ble_eq_true rfl : _ ≤ lim), ?_⟩)))
    refine ex_bl ?_
    exact ⟨rfl, rfl⟩
  · have hb : ∀ ys : List Int, bools (D.fzA ((iA ys).map fun _ => D.bl true)) = some (ys.map fun _ => true) := by
      intro ys
      induction ys with
      | nil => rfl
      | cons y ys ih =>
        show (bools (D.fzA ((iA ys).map fun _ => D.bl true))).map (true :: ·) = _
        rw [ih]; rfl
    have hall : biD .all (D.fz (.lst true ((iA xs).map fun _ => D.bl true))) = some (.bl true) := by
      show (bools (D.fzA ((iA xs).map fun _ => D.bl true))).map (fun bs => D.bl (bs.all _root_.id)) = _
      rw [hb]
      simp
    refine ex_some hall ?_
    refine ex_bl ?_
    refine ⟨_, rfl, fun h => (nomatch h), fun _ => ?_⟩
    refine w_bnil ?_
    show wB C _ [some (iT xs), some (iT xs), none] _
    (repeat (first
      | refine w_bcons ?_ | refine w_asg ?_ | refine w_par ?_ | refine w_exp ?_ | refine w_ife ?_ | refine w_ret ?_ | refine w_bnil ?_ | refine w_brk ?_ | refine w_cnt ?_
      | refine w_con ?_ | refine w_bin ?_ | refine w_neg ?_ | refine w_not ?_ | refine w_and ?_ | refine w_or ?_ | refine w_ifx ?_ | refine w_cmp ?_ | refine w_chain ?_
      | refine w_anil ?_ | refine w_acons ?_ | refine w_tup ?_ | refine w_lst ?_ | refine w_sub ?_ | refine w_ono ?_ | refine w_oso ?_ | refine w_slice ?_ | refine w_blt ?_ | refine w_isi ?_
      | refine w_call ?_ | refine w_ckw ?_ | refine w_rvl ?_ | refine w_lrg ?_ | refine w_to ?_ | refine w_ft ?_ | refine w_it ?_ | refine w_rng ?_ | refine w_enu ?_ | refine w_comp ?_
      | refine w_tp ?_ | refine w_tnil ?_ | refine w_tcons ?_
      | refine w_var (d := _) rfl rfl ?_ | refine w_varO (d := _) rfl rfl ?_ | refine w_lnv (d := _) rfl rfl ?_ | refine w_sbv (d0 := _) rfl ?_ | refine w_cio (d0 := _) rfl ?_ | refine w_app (l0 := _) rfl ?_ | refine w_st (d0 := _) rfl ?_ | refine w_retv (d := _) rfl ?_
      | refine w_nm (Nat.le_of_ble_eq_true rfl) ?_
      | refine ex_some (o_add _ _) ?_ | refine ex_some (o_sub _ _) ?_ | refine ex_some rfl ?_ | refine ex_int ?_ | refine ex_lst ?_ | refine ex_sbv rfl rfl rfl ?_ | refine ex_st rfl rfl rfl ?_
      | (refine ⟨(Nat.le_of_ble_eq_true rfl : _ ≤ lim), ?_⟩)))
    refine ex_some (repr_tup hl h) ?_
    (repeat (first
      | refine w_bcons ?_ | refine w_asg ?_ | refine w_par ?_ | refine w_exp ?_ | refine w_ife ?_ | refine w_ret ?_ | refine w_bnil ?_ | refine w_brk ?_ | refine w_cnt ?_
      | refine w_con ?_ | refine w_bin ?_ | refine w_neg ?_ | refine w_not ?_ | refine w_and ?_ | refine w_or ?_ | refine w_ifx ?_ | refine w_cmp ?_ | refine w_chain ?_
      | refine w_anil ?_ | refine w_acons ?_ | refine w_tup ?_ | refine w_lst ?_ | refine w_sub ?_ | refine w_ono ?_ | refine w_oso ?_ | refine w_slice ?_ | refine w_blt ?_ | refine w_isi ?_
      | refine w_call ?_ | refine w_ckw ?_ | refine w_rvl ?_ | refine w_lrg ?_ | refine w_to ?_ | refine w_ft ?_ | refine w_it ?_ | refine w_rng ?_ | refine w_enu ?_ | refine w_comp ?_
      | refine w_tp ?_ | refine w_tnil ?_ | refine w_tcons ?_
      | refine w_var (d := _) rfl rfl ?_ | refine w_varO (d := _) rfl rfl ?_ | refine w_lnv (d := _) rfl rfl ?_ | refine w_sbv (d0 := _) rfl ?_ | refine w_cio (d0 := _) rfl ?_ | refine w_app (l0 := _) rfl ?_ | refine w_st (d0 := _) rfl ?_ | refine w_retv (d := _) rfl ?_
      | refine w_nm (Nat.le_of_ble_eq_true rfl) ?_
      | refine ex_some (o_add _ _) ?_ | refine ex_some (o_sub _ _) ?_ | refine ex_some rfl ?_ | refine ex_int ?_ | refine ex_lst ?_ | refine ex_sbv rfl rfl rfl ?_ | refine ex_st rfl rfl rfl ?_
      | (refine ⟨(Nat.le_of_ble_eq_true rfl : _ ≤ lim), ?_⟩)))
    refine ex_some (repr_tup hl h) ?_
    (repeat (first
      | refine w_bcons ?_ | refine w_asg ?_ | refine w_par ?_ | refine w_exp ?_ | refine w_ife ?_ | refine w_ret ?_ | refine w_bnil ?_ | refine w_brk ?_ | refine w_cnt ?_
      | refine w_con ?_ | refine w_bin ?_ | refine w_neg ?_ | refine w_not ?_ | refine w_and ?_ | refine w_or ?_ | refine w_ifx ?_ | refine w_cmp ?_ | refine w_chain ?_
      | refine w_anil ?_ | refine w_acons ?_ | refine w_tup ?_ | refine w_lst ?_ | refine w_sub ?_ | refine w_ono ?_ | refine w_oso ?_ | refine w_slice ?_ | refine w_blt ?_ | refine w_isi ?_
      | refine w_call ?_ | refine w_ckw ?_ | refine w_rvl ?_ | refine w_lrg ?_ | refine w_to ?_ | refine w_ft ?_ | refine w_it ?_ | refine w_rng ?_ | refine w_enu ?_ | refine w_comp ?_
      | refine w_tp ?_ | refine w_tnil ?_ | refine w_tcons ?_
      | refine w_var (d := _) rfl rfl ?_ | refine w_varO (d := _) rfl rfl ?_ | refine w_lnv (d := _) rfl rfl ?_ | refine w_sbv (d0 := _) rfl ?_ | refine w_cio (d0 := _) rfl ?_ | refine w_app (l0 := _) rfl ?_ | refine w_st (d0 := _) rfl ?_ | refine w_retv (d := _) rfl ?_
      | refine w_nm (Nat.le_of_ble_eq_true rfl) ?_
      | refine ex_some (o_add _ _) ?_ | refine ex_some (o_sub _ _) ?_ | refine ex_some rfl ?_ | refine ex_int ?_ | refine ex_lst ?_ | refine ex_sbv rfl rfl rfl ?_ | refine ex_st rfl rfl rfl ?_
      | (refine ⟨(Nat.le_of_ble_eq_true rfl : _ ≤ lim), ?_⟩)))
    show D.bl (decide _) = D.bl true
    rw [decide_eq_true rfl]
end R49

namespace R49
open PySem PySem.Spec Rr
theorem iA_get {xs : List Int} {k : Nat} {d : D} (h : (iA xs)[k]? = some d) : ∃ i, xs[k]? = some i ∧ d = .int i := by
  rw [List.getElem?_map] at h
  obtain ⟨i, h1, h2⟩ := Option.map_eq_some_iff.mp h
  exact ⟨i, h1, h2.symm⟩
theorem intsD_get {lo : Int} {n k : Nat} {d : D} (h : (intsD lo n)[k]? = some d) : k < n ∧ d = .int (lo + k) := by
  unfold intsD at h
  rw [List.getElem?_map] at h
  obtain ⟨i, h1, h2⟩ := Option.map_eq_some_iff.mp h
  have hl := (List.getElem?_eq_some_iff.mp h1).1
  rw [List.length_range] at hl
  rw [List.getElem?_range hl] at h1
  cases h1
  exact ⟨hl, h2.symm⟩
theorem intsD_len' (lo : Int) (n : Nat) : (intsD lo n).length = n := by unfold intsD; rw [List.length_map, List.length_range]
theorem own_bag (C : Fn) {ns : List Int} (hl : ns.length ≤ 63) : ∃ l, runF C m__law_own_bag [.scr ns] = some (.lst true l, []) ∧ Bg l := by
  have key : ∀ cs : List Int, cs.length ≤ 63 → (∀ c ∈ cs, 0 ≤ c ∧ c < 10 ^ 40) → True := fun _ _ _ => trivial
  have go : ∃ l, wB C m__law_own_bag.body [some (.scr ns), none, none, none] (fun f _ => match f with
      | .rt d => d = .lst true l
      | .nx => .non = D.lst true l
      | _ => False) ∧ Bg l := by
    let cs := (ns.take 63).map fun i => (if i < 0 then -i else i) % 10 ^ 40
    have hcl : cs.length ≤ 63 := by show ((ns.take 63).map _).length ≤ 63; rw [List.length_map, List.length_take]; omega
    have hcs : ∀ c ∈ cs, 0 ≤ c ∧ c < 10 ^ 40 := fun c hc => by
      obtain ⟨i, _, rfl⟩ := List.mem_map.mp hc
      exact ⟨Int.emod_nonneg _ (by decide), Int.emod_lt_of_pos _ (by decide)⟩
    -- what the loop leaves
    let stp : Int → Int → Int := fun m c => (m * 48271 + c % 2147483629 + 7) % 2147483647
    let mx := cs.foldl stp (2468 + (cs.length : Int))
    have hstp : ∀ m c, 0 ≤ stp m c ∧ stp m c < 2147483647 := fun m c => ⟨Int.emod_nonneg _ (by decide), Int.emod_lt_of_pos _ (by decide)⟩
    have hmx : 0 ≤ mx ∧ mx < 2147483647 := by
      have : ∀ (ys : List Int) (m : Int), 0 ≤ m → m < 2147483647 → 0 ≤ ys.foldl stp m ∧ ys.foldl stp m < 2147483647 := by
        intro ys
        induction ys with
        | nil => intro m h1 h2; exact ⟨h1, h2⟩
        | cons y ys ih => intro m _ _; exact ih _ (hstp m y).1 (hstp m y).2
      exact this cs _ (by omega) (by omega)
    refine ⟨[.lst true (iA cs.reverse), .int 0, .int mx], ?_, bag_ok (by rw [List.length_reverse]; exact hcl) (fun c hc => hcs c (List.mem_reverse.mp hc)) (by decide) (by decide) hmx.1 hmx.2⟩
    refine w_bcons (w_asg (w_comp (w_it (w_slice ?_))))
    (repeat (first
      | refine w_bcons ?_ | refine w_asg ?_ | refine w_par ?_ | refine w_exp ?_ | refine w_ife ?_ | refine w_ret ?_ | refine w_bnil ?_ | refine w_brk ?_ | refine w_cnt ?_
      | refine w_con ?_ | refine w_bin ?_ | refine w_neg ?_ | refine w_not ?_ | refine w_and ?_ | refine w_or ?_ | refine w_ifx ?_ | refine w_cmp ?_ | refine w_chain ?_
      | refine w_anil ?_ | refine w_acons ?_ | refine w_tup ?_ | refine w_lst ?_ | refine w_sub ?_ | refine w_ono ?_ | refine w_oso ?_ | refine w_slice ?_ | refine w_blt ?_ | refine w_isi ?_
      | refine w_call ?_ | refine w_ckw ?_ | refine w_rvl ?_ | refine w_lrg ?_ | refine w_to ?_ | refine w_ft ?_ | refine w_it ?_ | refine w_rng ?_ | refine w_enu ?_ | refine w_comp ?_
      | refine w_tp ?_ | refine w_tnil ?_ | refine w_tcons ?_
      | refine w_var (d := _) rfl rfl ?_ | refine w_varO (d := _) rfl rfl ?_ | refine w_lnv (d := _) rfl rfl ?_ | refine w_sbv (d0 := _) rfl ?_ | refine w_cio (d0 := _) rfl ?_ | refine w_app (l0 := _) rfl ?_ | refine w_st (d0 := _) rfl ?_ | refine w_retv (d := _) rfl ?_
      | refine w_nm (Nat.le_of_ble_eq_true rfl) ?_
      | refine ex_some (o_add _ _) ?_ | refine ex_some (o_sub _ _) ?_ | refine ex_some rfl ?_ | refine ex_int ?_ | refine ex_lst ?_ | refine ex_sbv rfl rfl rfl ?_ | refine ex_st rfl rfl rfl ?_
      | (refine ⟨(Nat.le_of_ble_eq_true rfl : _ ≤ lim), ?_⟩)))
    have hz : cutD (ns.map D.int) none (some 63) = iA (ns.take 63) := by
      unfold cutD
      rw [show HT.sIx (ns.map D.int).length 0 none = 0 from rfl, List.drop_zero, Nat.sub_zero]
      have : HT.sIx (ns.map D.int).length (ns.map D.int).length (some 63) = min 63 (ns.map D.int).length := HT.sIx_nat _ _ 63
      rw [this, List.length_map, iA, List.map_take]
      by_cases h : ns.length ≤ 63
      · rw [List.take_of_length_le (by rw [List.length_map]; omega), List.take_of_length_le (by rw [List.length_map]; omega)]
      · rw [Nat.min_eq_left (by omega)]
    have hz2 : D.fzA (cutD (ns.map D.int) none (some 63)) = iA (ns.take 63) := by rw [hz, fzA_i]
    show (D.fzA (cutD (ns.map D.int) none (some 63))).length ≤ lim ∧ wC [3] _ _ _ (D.fzA (cutD (ns.map D.int) none (some 63))) _ _
    rw [hz2]
    refine ⟨by rw [List.length_map, List.length_take]; show _ ≤ 1000000; omega, wC_map (fun d => match d with | .int i => .int ((if i < 0 then -i else i) % 10 ^ 40) | d => d) (fun d hd => ?_) ?_⟩
    · obtain ⟨i, hi, rfl⟩ := List.mem_map.mp hd
      refine w_nm (Nat.le_of_ble_eq_true rfl) ?_
      show wE C _ [some (.scr ns), none, none, some (.int i)] _
      (repeat (first
        | refine w_bcons ?_ | refine w_asg ?_ | refine w_par ?_ | refine w_exp ?_ | refine w_ife ?_ | refine w_ret ?_ | refine w_bnil ?_ | refine w_brk ?_ | refine w_cnt ?_
        | refine w_con ?_ | refine w_bin ?_ | refine w_neg ?_ | refine w_not ?_ | refine w_and ?_ | refine w_or ?_ | refine w_ifx ?_ | refine w_cmp ?_ | refine w_chain ?_
        | refine w_anil ?_ | refine w_acons ?_ | refine w_tup ?_ | refine w_lst ?_ | refine w_sub ?_ | refine w_ono ?_ | refine w_oso ?_ | refine w_slice ?_ | refine w_blt ?_ | refine w_isi ?_
        | refine w_call ?_ | refine w_ckw ?_ | refine w_rvl ?_ | refine w_lrg ?_ | refine w_to ?_ | refine w_ft ?_ | refine w_it ?_ | refine w_rng ?_ | refine w_enu ?_ | refine w_comp ?_
        | refine w_tp ?_ | refine w_tnil ?_ | refine w_tcons ?_
        | refine w_var (d := _) rfl rfl ?_ | refine w_varO (d := _) rfl rfl ?_ | refine w_lnv (d := _) rfl rfl ?_ | refine w_sbv (d0 := _) rfl ?_ | refine w_cio (d0 := _) rfl ?_ | refine w_app (l0 := _) rfl ?_ | refine w_st (d0 := _) rfl ?_ | refine w_retv (d := _) rfl ?_
        | refine w_nm (Nat.le_of_ble_eq_true rfl) ?_
        | refine ex_some (o_add _ _) ?_ | refine ex_some (o_sub _ _) ?_ | refine ex_some rfl ?_ | refine ex_int ?_ | refine ex_lst ?_ | refine ex_sbv rfl rfl rfl ?_ | refine ex_st rfl rfl rfl ?_
        | (refine ⟨(Nat.le_of_ble_eq_true rfl : _ ≤ lim), ?_⟩)))
      exact ⟨rfl, rfl⟩
    · have hmap : (iA (ns.take 63)).map (fun d => match d with | .int i => D.int ((if i < 0 then -i else i) % 10 ^ 40) | d => d) = iA cs := by
        rw [iA, iA, List.map_map, List.map_map]
        rfl
      rw [hmap]
      refine w_nm (Nat.le_of_ble_eq_true rfl) ?_
      show wB C _ [some (.scr ns), some (.lst true (iA cs)), none, none] _
      (repeat (first
        | refine w_bcons ?_ | refine w_asg ?_ | refine w_par ?_ | refine w_exp ?_ | refine w_ife ?_ | refine w_ret ?_ | refine w_bnil ?_ | refine w_brk ?_ | refine w_cnt ?_
        | refine w_con ?_ | refine w_bin ?_ | refine w_neg ?_ | refine w_not ?_ | refine w_and ?_ | refine w_or ?_ | refine w_ifx ?_ | refine w_cmp ?_ | refine w_chain ?_
        | refine w_anil ?_ | refine w_acons ?_ | refine w_tup ?_ | refine w_lst ?_ | refine w_sub ?_ | refine w_ono ?_ | refine w_oso ?_ | refine w_slice ?_ | refine w_blt ?_ | refine w_isi ?_
        | refine w_call ?_ | refine w_ckw ?_ | refine w_rvl ?_ | refine w_lrg ?_ | refine w_to ?_ | refine w_ft ?_ | refine w_it ?_ | refine w_rng ?_ | refine w_enu ?_ | refine w_comp ?_
        | refine w_tp ?_ | refine w_tnil ?_ | refine w_tcons ?_
        | refine w_var (d := _) rfl rfl ?_ | refine w_varO (d := _) rfl rfl ?_ | refine w_lnv (d := _) rfl rfl ?_ | refine w_sbv (d0 := _) rfl ?_ | refine w_cio (d0 := _) rfl ?_ | refine w_app (l0 := _) rfl ?_ | refine w_st (d0 := _) rfl ?_ | refine w_retv (d := _) rfl ?_
        | refine w_nm (Nat.le_of_ble_eq_true rfl) ?_
        | refine ex_some (o_add _ _) ?_ | refine ex_some (o_sub _ _) ?_ | refine ex_some rfl ?_ | refine ex_int ?_ | refine ex_lst ?_ | refine ex_sbv rfl rfl rfl ?_ | refine ex_st rfl rfl rfl ?_
        | (refine ⟨(Nat.le_of_ble_eq_true rfl : _ ≤ lim), ?_⟩)))
      show wS C _ [some (.scr ns), some (.lst true (iA cs)), some (.int (2468 + ((iA cs).length : Int))), none] _
      rw [List.length_map]
      refine w_cut (fun ρ => ρ = [some (.scr ns), some (.lst false (iA cs)), some (.int mx), none]) (w_for (w_it (w_varO (d := .lst true (iA cs)) rfl rfl (ex_some (z := iA cs) ?_ ?_)))) fun ρ eρ => ?_
      · show some (D.fzA (iA cs)) = _
        rw [fzA_i]
      · refine ⟨fun k ρ => ∃ y, ρ = [some (.scr ns), some (.lst false (iA cs)), some (.int ((cs.take k).foldl stp (2468 + (cs.length : Int)))), y], ⟨none, ?_⟩, fun k d ρ hd ⟨y, eρ⟩ => ?_, fun ρ ⟨y, eρ⟩ => ?_⟩
        · show [some (D.scr ns), some (.lst false (D.fzA (iA cs))), _, none] = _
          rw [fzA_i]
          rfl
        · subst eρ
          obtain ⟨c, hc, rfl⟩ := iA_get hd
          refine w_nm (Nat.le_of_ble_eq_true rfl) ?_
          have hb : 0 ≤ (cs.take k).foldl stp (2468 + (cs.length : Int)) ∧ (cs.take k).foldl stp (2468 + (cs.length : Int)) < 2147483647 := by
            have : ∀ (ys : List Int) (m : Int), 0 ≤ m → m < 2147483647 → 0 ≤ ys.foldl stp m ∧ ys.foldl stp m < 2147483647 := by
              intro ys
              induction ys with
              | nil => intro m h1 h2; exact ⟨h1, h2⟩
              | cons y ys ih => intro m _ _; exact ih _ (hstp m y).1 (hstp m y).2
            exact this _ _ (by omega) (by omega)
          have hnext : (cs.take (k + 1)).foldl stp (2468 + (cs.length : Int)) = stp ((cs.take k).foldl stp (2468 + (cs.length : Int))) c := by
            rw [List.take_succ, hc, List.foldl_append]
            rfl
          generalize (cs.take k).foldl stp (2468 + (cs.length : Int)) = m at hb hnext
          show wB C _ [some (.scr ns), some (.lst false (iA cs)), some (.int m), some (.int c)] _
          (repeat (first
            | refine w_bcons ?_ | refine w_asg ?_ | refine w_par ?_ | refine w_exp ?_ | refine w_ife ?_ | refine w_ret ?_ | refine w_bnil ?_ | refine w_brk ?_ | refine w_cnt ?_
            | refine w_con ?_ | refine w_bin ?_ | refine w_neg ?_ | refine w_not ?_ | refine w_and ?_ | refine w_or ?_ | refine w_ifx ?_ | refine w_cmp ?_ | refine w_chain ?_
            | refine w_anil ?_ | refine w_acons ?_ | refine w_tup ?_ | refine w_lst ?_ | refine w_sub ?_ | refine w_ono ?_ | refine w_oso ?_ | refine w_slice ?_ | refine w_blt ?_ | refine w_isi ?_
            | refine w_call ?_ | refine w_ckw ?_ | refine w_rvl ?_ | refine w_lrg ?_ | refine w_to ?_ | refine w_ft ?_ | refine w_it ?_ | refine w_rng ?_ | refine w_enu ?_ | refine w_comp ?_
            | refine w_tp ?_ | refine w_tnil ?_ | refine w_tcons ?_
            | refine w_var (d := _) rfl rfl ?_ | refine w_varO (d := _) rfl rfl ?_ | refine w_lnv (d := _) rfl rfl ?_ | refine w_sbv (d0 := _) rfl ?_ | refine w_cio (d0 := _) rfl ?_ | refine w_app (l0 := _) rfl ?_ | refine w_st (d0 := _) rfl ?_ | refine w_retv (d := _) rfl ?_
            | refine w_nm (Nat.le_of_ble_eq_true rfl) ?_
            | refine ex_some (o_add _ _) ?_ | refine ex_some (o_sub _ _) ?_ | refine ex_some rfl ?_ | refine ex_int ?_ | refine ex_lst ?_ | refine ex_sbv rfl rfl rfl ?_ | refine ex_st rfl rfl rfl ?_
            | (refine ⟨(Nat.le_of_ble_eq_true rfl : _ ≤ lim), ?_⟩)))
          refine ex_some (o_mulS (by omega) (by omega) (by decide) (by decide)) ?_
          (repeat (first
            | refine w_bcons ?_ | refine w_asg ?_ | refine w_par ?_ | refine w_exp ?_ | refine w_ife ?_ | refine w_ret ?_ | refine w_bnil ?_ | refine w_brk ?_ | refine w_cnt ?_
            | refine w_con ?_ | refine w_bin ?_ | refine w_neg ?_ | refine w_not ?_ | refine w_and ?_ | refine w_or ?_ | refine w_ifx ?_ | refine w_cmp ?_ | refine w_chain ?_
            | refine w_anil ?_ | refine w_acons ?_ | refine w_tup ?_ | refine w_lst ?_ | refine w_sub ?_ | refine w_ono ?_ | refine w_oso ?_ | refine w_slice ?_ | refine w_blt ?_ | refine w_isi ?_
            | refine w_call ?_ | refine w_ckw ?_ | refine w_rvl ?_ | refine w_lrg ?_ | refine w_to ?_ | refine w_ft ?_ | refine w_it ?_ | refine w_rng ?_ | refine w_enu ?_ | refine w_comp ?_
            | refine w_tp ?_ | refine w_tnil ?_ | refine w_tcons ?_
            | refine w_var (d := _) rfl rfl ?_ | refine w_varO (d := _) rfl rfl ?_ | refine w_lnv (d := _) rfl rfl ?_ | refine w_sbv (d0 := _) rfl ?_ | refine w_cio (d0 := _) rfl ?_ | refine w_app (l0 := _) rfl ?_ | refine w_st (d0 := _) rfl ?_ | refine w_retv (d := _) rfl ?_
            | refine w_nm (Nat.le_of_ble_eq_true rfl) ?_
            | refine ex_some (o_add _ _) ?_ | refine ex_some (o_sub _ _) ?_ | refine ex_some rfl ?_ | refine ex_int ?_ | refine ex_lst ?_ | refine ex_sbv rfl rfl rfl ?_ | refine ex_st rfl rfl rfl ?_
            | (refine ⟨(Nat.le_of_ble_eq_true rfl : _ ≤ lim), ?_⟩)))
          refine ⟨some (.int c), ?_⟩
          rw [hnext]
          rfl
        · subst eρ
          refine ⟨rfl, ?_⟩
          show [some (D.scr ns), some (.lst false (iA cs)), some (.int ((cs.take (iA cs).length).foldl stp (2468 + (cs.length : Int)))), none] = _
          have e9 : (iA cs).length = cs.length := List.length_map _
          rw [e9, List.take_length]
      · subst eρ
        (repeat (first
          | refine w_bcons ?_ | refine w_asg ?_ | refine w_par ?_ | refine w_exp ?_ | refine w_ife ?_ | refine w_ret ?_ | refine w_bnil ?_ | refine w_brk ?_ | refine w_cnt ?_
          | refine w_con ?_ | refine w_bin ?_ | refine w_neg ?_ | refine w_not ?_ | refine w_and ?_ | refine w_or ?_ | refine w_ifx ?_ | refine w_cmp ?_ | refine w_chain ?_
          | refine w_anil ?_ | refine w_acons ?_ | refine w_tup ?_ | refine w_lst ?_ | refine w_sub ?_ | refine w_ono ?_ | refine w_oso ?_ | refine w_slice ?_ | refine w_blt ?_ | refine w_isi ?_
          | refine w_call ?_ | refine w_ckw ?_ | refine w_rvl ?_ | refine w_lrg ?_ | refine w_to ?_ | refine w_ft ?_ | refine w_it ?_ | refine w_rng ?_ | refine w_enu ?_ | refine w_comp ?_
          | refine w_tp ?_ | refine w_tnil ?_ | refine w_tcons ?_
          | refine w_var (d := _) rfl rfl ?_ | refine w_varO (d := _) rfl rfl ?_ | refine w_lnv (d := _) rfl rfl ?_ | refine w_sbv (d0 := _) rfl ?_ | refine w_cio (d0 := _) rfl ?_ | refine w_app (l0 := _) rfl ?_ | refine w_st (d0 := _) rfl ?_ | refine w_retv (d := _) rfl ?_
          | refine w_nm (Nat.le_of_ble_eq_true rfl) ?_
          | refine ex_some (o_add _ _) ?_ | refine ex_some (o_sub _ _) ?_ | refine ex_some rfl ?_ | refine ex_int ?_ | refine ex_lst ?_ | refine ex_sbv rfl rfl rfl ?_ | refine ex_st rfl rfl rfl ?_
          | (refine ⟨(Nat.le_of_ble_eq_true rfl : _ ≤ lim), ?_⟩)))
        have e1 : D.fzA (iA cs) = iA cs := fzA_i cs
        show D.lst true [.lst true (D.fzA (iA cs)).reverse, .int 0, .int mx] = _
        rw [e1, iA, ← List.map_reverse]
  obtain ⟨l, h, hb⟩ := go
  exact ⟨l, w_run rfl (by decide) rfl h, hb⟩
/-- a whole number of either sign -/
def IntOk (C : Fn) : Prop := ∀ l : List D, Bg l → ∃ i l', C 11 [.lst true l] = some (.int i, [.lst true l']) ∧ -(10 ^ 30) ≤ i ∧ i ≤ 10 ^ 30 ∧ Bg l'
def bnd : Nat → Int
  | 0 => 1
  | 1 => 100000000
  | 2 => 10000000000000000
  | 3 => 1000000000000000000000000
  | _ => 100000000000000000000000000000000
theorem int_ok (k : Nat) : IntOk (callN fs (k + 3)) := fun l hb => by
  rw [callN_eq (F := m__law_integer) rfl]
  have hd : DrawOk (callN fs (k + 2)) := draw_ok (k + 1)
  have hp : PickOk (callN fs (k + 2)) := pick_ok k
  generalize callN fs (k + 2) = C at hd hp
  have := w_runio (C := C) (F := m__law_integer) (ds := [.lst true l]) (Q := fun d x' => ∃ i l', d = .int i ∧ x' = .lst true l' ∧ -(10 ^ 30) ≤ i ∧ i ≤ 10 ^ 30 ∧ Bg l') rfl (by decide) rfl ?_
  · obtain ⟨d, x', e, i, l', rfl, rfl, q1, q2, g⟩ := this
    exact ⟨i, l', e, q1, q2, g⟩
  · show wB _ _ [some (.lst true l), none, none, none] _
    (repeat (first
      | refine w_bcons ?_ | refine w_asg ?_ | refine w_par ?_ | refine w_exp ?_ | refine w_ife ?_ | refine w_ret ?_ | refine w_bnil ?_ | refine w_brk ?_ | refine w_cnt ?_
      | refine w_con ?_ | refine w_bin ?_ | refine w_neg ?_ | refine w_not ?_ | refine w_and ?_ | refine w_or ?_ | refine w_ifx ?_ | refine w_cmp ?_ | refine w_chain ?_
      | refine w_anil ?_ | refine w_acons ?_ | refine w_tup ?_ | refine w_lst ?_ | refine w_sub ?_ | refine w_ono ?_ | refine w_oso ?_ | refine w_slice ?_ | refine w_blt ?_ | refine w_isi ?_
      | refine w_call ?_ | refine w_ckw ?_ | refine w_rvl ?_ | refine w_lrg ?_ | refine w_to ?_ | refine w_ft ?_ | refine w_it ?_ | refine w_rng ?_ | refine w_enu ?_ | refine w_comp ?_
      | refine w_tp ?_ | refine w_tnil ?_ | refine w_tcons ?_
      | refine w_var (d := _) rfl rfl ?_ | refine w_varO (d := _) rfl rfl ?_ | refine w_lnv (d := _) rfl rfl ?_ | refine w_sbv (d0 := _) rfl ?_ | refine w_cio (d0 := _) rfl ?_ | refine w_app (l0 := _) rfl ?_ | refine w_st (d0 := _) rfl ?_ | refine w_retv (d := _) rfl ?_
      | refine w_nm (Nat.le_of_ble_eq_true rfl) ?_
      | refine ex_some (o_add _ _) ?_ | refine ex_some (o_sub _ _) ?_ | refine ex_some rfl ?_ | refine ex_int ?_ | refine ex_lst ?_ | refine ex_sbv rfl rfl rfl ?_ | refine ex_st rfl rfl rfl ?_
      | (refine ⟨(Nat.le_of_ble_eq_true rfl : _ ≤ lim), ?_⟩)))
    obtain ⟨way, l1, e1, q1, q2, g1⟩ := hd l 8 hb (by decide) (by decide)
    refine ⟨_, _, _, rfl, e1, ?_⟩
    (repeat (first
      | refine w_bcons ?_ | refine w_asg ?_ | refine w_par ?_ | refine w_exp ?_ | refine w_ife ?_ | refine w_ret ?_ | refine w_bnil ?_ | refine w_brk ?_ | refine w_cnt ?_
      | refine w_con ?_ | refine w_bin ?_ | refine w_neg ?_ | refine w_not ?_ | refine w_and ?_ | refine w_or ?_ | refine w_ifx ?_ | refine w_cmp ?_ | refine w_chain ?_
      | refine w_anil ?_ | refine w_acons ?_ | refine w_tup ?_ | refine w_lst ?_ | refine w_sub ?_ | refine w_ono ?_ | refine w_oso ?_ | refine w_slice ?_ | refine w_blt ?_ | refine w_isi ?_
      | refine w_call ?_ | refine w_ckw ?_ | refine w_rvl ?_ | refine w_lrg ?_ | refine w_to ?_ | refine w_ft ?_ | refine w_it ?_ | refine w_rng ?_ | refine w_enu ?_ | refine w_comp ?_
      | refine w_tp ?_ | refine w_tnil ?_ | refine w_tcons ?_
      | refine w_var (d := _) rfl rfl ?_ | refine w_varO (d := _) rfl rfl ?_ | refine w_lnv (d := _) rfl rfl ?_ | refine w_sbv (d0 := _) rfl ?_ | refine w_cio (d0 := _) rfl ?_ | refine w_app (l0 := _) rfl ?_ | refine w_st (d0 := _) rfl ?_ | refine w_retv (d := _) rfl ?_
      | refine w_nm (Nat.le_of_ble_eq_true rfl) ?_
      | refine ex_some (o_add _ _) ?_ | refine ex_some (o_sub _ _) ?_ | refine ex_some rfl ?_ | refine ex_int ?_ | refine ex_lst ?_ | refine ex_sbv rfl rfl rfl ?_ | refine ex_st rfl rfl rfl ?_
      | (refine ⟨(Nat.le_of_ble_eq_true rfl : _ ≤ lim), ?_⟩)))
    refine ex_dec (fun h0 => ?_) (fun h0 => ?_)
    · (repeat (first
        | refine w_bcons ?_ | refine w_asg ?_ | refine w_par ?_ | refine w_exp ?_ | refine w_ife ?_ | refine w_ret ?_ | refine w_bnil ?_ | refine w_brk ?_ | refine w_cnt ?_
        | refine w_con ?_ | refine w_bin ?_ | refine w_neg ?_ | refine w_not ?_ | refine w_and ?_ | refine w_or ?_ | refine w_ifx ?_ | refine w_cmp ?_ | refine w_chain ?_
        | refine w_anil ?_ | refine w_acons ?_ | refine w_tup ?_ | refine w_lst ?_ | refine w_sub ?_ | refine w_ono ?_ | refine w_oso ?_ | refine w_slice ?_ | refine w_blt ?_ | refine w_isi ?_
        | refine w_call ?_ | refine w_ckw ?_ | refine w_rvl ?_ | refine w_lrg ?_ | refine w_to ?_ | refine w_ft ?_ | refine w_it ?_ | refine w_rng ?_ | refine w_enu ?_ | refine w_comp ?_
        | refine w_tp ?_ | refine w_tnil ?_ | refine w_tcons ?_
        | refine w_var (d := _) rfl rfl ?_ | refine w_varO (d := _) rfl rfl ?_ | refine w_lnv (d := _) rfl rfl ?_ | refine w_sbv (d0 := _) rfl ?_ | refine w_cio (d0 := _) rfl ?_ | refine w_app (l0 := _) rfl ?_ | refine w_st (d0 := _) rfl ?_ | refine w_retv (d := _) rfl ?_
        | refine w_nm (Nat.le_of_ble_eq_true rfl) ?_
        | refine ex_some (o_add _ _) ?_ | refine ex_some (o_sub _ _) ?_ | refine ex_some rfl ?_ | refine ex_int ?_ | refine ex_lst ?_ | refine ex_sbv rfl rfl rfl ?_ | refine ex_st rfl rfl rfl ?_
        | (refine ⟨(Nat.le_of_ble_eq_true rfl : _ ≤ lim), ?_⟩)))
      obtain ⟨z, l2, e2, hz, g2⟩ := hp l1 [.int (10 ^ 30), .int (-(10 ^ 30)), .int (10 ^ 30 - 1), .int (1 - 10 ^ 30)] g1 (by simp) (by decide) (by
        intro d hd
        simp only [List.mem_cons, List.not_mem_nil, or_false] at hd
        rcases hd with rfl | rfl | rfl | rfl <;> rfl)
      refine ⟨_, _, _, rfl, e2, ?_⟩
      have hi : ∃ i, z = .int i ∧ -(10 ^ 30) ≤ i ∧ i ≤ 10 ^ 30 := by
        simp only [List.mem_cons, List.not_mem_nil, or_false] at hz
        rcases hz with rfl | rfl | rfl | rfl
        · exact ⟨_, rfl, by decide, by decide⟩
        · exact ⟨_, rfl, by decide, by decide⟩
        · exact ⟨_, rfl, by decide, by decide⟩
        · exact ⟨_, rfl, by decide, by decide⟩
      obtain ⟨i, rfl, q3, q4⟩ := hi
      exact ⟨_, rfl, i, l2, rfl, rfl, q3, q4, g2⟩
    · (repeat (first
        | refine w_bcons ?_ | refine w_asg ?_ | refine w_par ?_ | refine w_exp ?_ | refine w_ife ?_ | refine w_ret ?_ | refine w_bnil ?_ | refine w_brk ?_ | refine w_cnt ?_
        | refine w_con ?_ | refine w_bin ?_ | refine w_neg ?_ | refine w_not ?_ | refine w_and ?_ | refine w_or ?_ | refine w_ifx ?_ | refine w_cmp ?_ | refine w_chain ?_
        | refine w_anil ?_ | refine w_acons ?_ | refine w_tup ?_ | refine w_lst ?_ | refine w_sub ?_ | refine w_ono ?_ | refine w_oso ?_ | refine w_slice ?_ | refine w_blt ?_ | refine w_isi ?_
        | refine w_call ?_ | refine w_ckw ?_ | refine w_rvl ?_ | refine w_lrg ?_ | refine w_to ?_ | refine w_ft ?_ | refine w_it ?_ | refine w_rng ?_ | refine w_enu ?_ | refine w_comp ?_
        | refine w_tp ?_ | refine w_tnil ?_ | refine w_tcons ?_
        | refine w_var (d := _) rfl rfl ?_ | refine w_varO (d := _) rfl rfl ?_ | refine w_lnv (d := _) rfl rfl ?_ | refine w_sbv (d0 := _) rfl ?_ | refine w_cio (d0 := _) rfl ?_ | refine w_app (l0 := _) rfl ?_ | refine w_st (d0 := _) rfl ?_ | refine w_retv (d := _) rfl ?_
        | refine w_nm (Nat.le_of_ble_eq_true rfl) ?_
        | refine ex_some (o_add _ _) ?_ | refine ex_some (o_sub _ _) ?_ | refine ex_some rfl ?_ | refine ex_int ?_ | refine ex_lst ?_ | refine ex_sbv rfl rfl rfl ?_ | refine ex_st rfl rfl rfl ?_
        | (refine ⟨(Nat.le_of_ble_eq_true rfl : _ ≤ lim), ?_⟩)))
      refine ex_dec (fun h1 => ?_) (fun h1 => ?_)
      · (repeat (first
          | refine w_bcons ?_ | refine w_asg ?_ | refine w_par ?_ | refine w_exp ?_ | refine w_ife ?_ | refine w_ret ?_ | refine w_bnil ?_ | refine w_brk ?_ | refine w_cnt ?_
          | refine w_con ?_ | refine w_bin ?_ | refine w_neg ?_ | refine w_not ?_ | refine w_and ?_ | refine w_or ?_ | refine w_ifx ?_ | refine w_cmp ?_ | refine w_chain ?_
          | refine w_anil ?_ | refine w_acons ?_ | refine w_tup ?_ | refine w_lst ?_ | refine w_sub ?_ | refine w_ono ?_ | refine w_oso ?_ | refine w_slice ?_ | refine w_blt ?_ | refine w_isi ?_
          | refine w_call ?_ | refine w_ckw ?_ | refine w_rvl ?_ | refine w_lrg ?_ | refine w_to ?_ | refine w_ft ?_ | refine w_it ?_ | refine w_rng ?_ | refine w_enu ?_ | refine w_comp ?_
          | refine w_tp ?_ | refine w_tnil ?_ | refine w_tcons ?_
          | refine w_var (d := _) rfl rfl ?_ | refine w_varO (d := _) rfl rfl ?_ | refine w_lnv (d := _) rfl rfl ?_ | refine w_sbv (d0 := _) rfl ?_ | refine w_cio (d0 := _) rfl ?_ | refine w_app (l0 := _) rfl ?_ | refine w_st (d0 := _) rfl ?_ | refine w_retv (d := _) rfl ?_
          | refine w_nm (Nat.le_of_ble_eq_true rfl) ?_
          | refine ex_some (o_add _ _) ?_ | refine ex_some (o_sub _ _) ?_ | refine ex_some rfl ?_ | refine ex_int ?_ | refine ex_lst ?_ | refine ex_sbv rfl rfl rfl ?_ | refine ex_st rfl rfl rfl ?_
          | (refine ⟨(Nat.le_of_ble_eq_true rfl : _ ≤ lim), ?_⟩)))
        obtain ⟨r, l2, e2, q3, q4, g2⟩ := hd l1 401 g1 (by decide) (by decide)
        refine ⟨_, _, _, rfl, e2, ?_⟩
        (repeat (first
          | refine w_bcons ?_ | refine w_asg ?_ | refine w_par ?_ | refine w_exp ?_ | refine w_ife ?_ | refine w_ret ?_ | refine w_bnil ?_ | refine w_brk ?_ | refine w_cnt ?_
          | refine w_con ?_ | refine w_bin ?_ | refine w_neg ?_ | refine w_not ?_ | refine w_and ?_ | refine w_or ?_ | refine w_ifx ?_ | refine w_cmp ?_ | refine w_chain ?_
          | refine w_anil ?_ | refine w_acons ?_ | refine w_tup ?_ | refine w_lst ?_ | refine w_sub ?_ | refine w_ono ?_ | refine w_oso ?_ | refine w_slice ?_ | refine w_blt ?_ | refine w_isi ?_
          | refine w_call ?_ | refine w_ckw ?_ | refine w_rvl ?_ | refine w_lrg ?_ | refine w_to ?_ | refine w_ft ?_ | refine w_it ?_ | refine w_rng ?_ | refine w_enu ?_ | refine w_comp ?_
          | refine w_tp ?_ | refine w_tnil ?_ | refine w_tcons ?_
          | refine w_var (d := _) rfl rfl ?_ | refine w_varO (d := _) rfl rfl ?_ | refine w_lnv (d := _) rfl rfl ?_ | refine w_sbv (d0 := _) rfl ?_ | refine w_cio (d0 := _) rfl ?_ | refine w_app (l0 := _) rfl ?_ | refine w_st (d0 := _) rfl ?_ | refine w_retv (d := _) rfl ?_
          | refine w_nm (Nat.le_of_ble_eq_true rfl) ?_
          | refine ex_some (o_add _ _) ?_ | refine ex_some (o_sub _ _) ?_ | refine ex_some rfl ?_ | refine ex_int ?_ | refine ex_lst ?_ | refine ex_sbv rfl rfl rfl ?_ | refine ex_st rfl rfl rfl ?_
          | (refine ⟨(Nat.le_of_ble_eq_true rfl : _ ≤ lim), ?_⟩)))
        exact ⟨_, rfl, r - 200, l2, rfl, rfl, by omega, by omega, g2⟩
      · (repeat (first
          | refine w_bcons ?_ | refine w_asg ?_ | refine w_par ?_ | refine w_exp ?_ | refine w_ife ?_ | refine w_ret ?_ | refine w_bnil ?_ | refine w_brk ?_ | refine w_cnt ?_
          | refine w_con ?_ | refine w_bin ?_ | refine w_neg ?_ | refine w_not ?_ | refine w_and ?_ | refine w_or ?_ | refine w_ifx ?_ | refine w_cmp ?_ | refine w_chain ?_
          | refine w_anil ?_ | refine w_acons ?_ | refine w_tup ?_ | refine w_lst ?_ | refine w_sub ?_ | refine w_ono ?_ | refine w_oso ?_ | refine w_slice ?_ | refine w_blt ?_ | refine w_isi ?_
          | refine w_call ?_ | refine w_ckw ?_ | refine w_rvl ?_ | refine w_lrg ?_ | refine w_to ?_ | refine w_ft ?_ | refine w_it ?_ | refine w_rng ?_ | refine w_enu ?_ | refine w_comp ?_
          | refine w_tp ?_ | refine w_tnil ?_ | refine w_tcons ?_
          | refine w_var (d := _) rfl rfl ?_ | refine w_varO (d := _) rfl rfl ?_ | refine w_lnv (d := _) rfl rfl ?_ | refine w_sbv (d0 := _) rfl ?_ | refine w_cio (d0 := _) rfl ?_ | refine w_app (l0 := _) rfl ?_ | refine w_st (d0 := _) rfl ?_ | refine w_retv (d := _) rfl ?_
          | refine w_nm (Nat.le_of_ble_eq_true rfl) ?_
          | refine ex_some (o_add _ _) ?_ | refine ex_some (o_sub _ _) ?_ | refine ex_some rfl ?_ | refine ex_int ?_ | refine ex_lst ?_ | refine ex_sbv rfl rfl rfl ?_ | refine ex_st rfl rfl rfl ?_
          | (refine ⟨(Nat.le_of_ble_eq_true rfl : _ ≤ lim), ?_⟩)))
        refine w_cut (fun ρ => ∃ l2 v, ρ = [some (.lst true l2), some (.int way), some (.int v), none] ∧ Bg l2 ∧ 0 ≤ v ∧ v < 10 ^ 40) ?_ fun ρ ⟨l2, v, eρ, g2, q3, q4⟩ => ?_
        · refine w_for ?_
          (repeat (first
            | refine w_bcons ?_ | refine w_asg ?_ | refine w_par ?_ | refine w_exp ?_ | refine w_ife ?_ | refine w_ret ?_ | refine w_bnil ?_ | refine w_brk ?_ | refine w_cnt ?_
            | refine w_con ?_ | refine w_bin ?_ | refine w_neg ?_ | refine w_not ?_ | refine w_and ?_ | refine w_or ?_ | refine w_ifx ?_ | refine w_cmp ?_ | refine w_chain ?_
            | refine w_anil ?_ | refine w_acons ?_ | refine w_tup ?_ | refine w_lst ?_ | refine w_sub ?_ | refine w_ono ?_ | refine w_oso ?_ | refine w_slice ?_ | refine w_blt ?_ | refine w_isi ?_
            | refine w_call ?_ | refine w_ckw ?_ | refine w_rvl ?_ | refine w_lrg ?_ | refine w_to ?_ | refine w_ft ?_ | refine w_it ?_ | refine w_rng ?_ | refine w_enu ?_ | refine w_comp ?_
            | refine w_tp ?_ | refine w_tnil ?_ | refine w_tcons ?_
            | refine w_var (d := _) rfl rfl ?_ | refine w_varO (d := _) rfl rfl ?_ | refine w_lnv (d := _) rfl rfl ?_ | refine w_sbv (d0 := _) rfl ?_ | refine w_cio (d0 := _) rfl ?_ | refine w_app (l0 := _) rfl ?_ | refine w_st (d0 := _) rfl ?_ | refine w_retv (d := _) rfl ?_
            | refine w_nm (Nat.le_of_ble_eq_true rfl) ?_
            | refine ex_some (o_add _ _) ?_ | refine ex_some (o_sub _ _) ?_ | refine ex_some rfl ?_ | refine ex_int ?_ | refine ex_lst ?_ | refine ex_sbv rfl rfl rfl ?_ | refine ex_st rfl rfl rfl ?_
            | (refine ⟨(Nat.le_of_ble_eq_true rfl : _ ≤ lim), ?_⟩)))
          refine ⟨by decide, ?_⟩
          refine ⟨fun k ρ => ∃ l2 v y, ρ = [some (.lst true l2), some (.int way), some (.int v), y] ∧ Bg l2 ∧ 0 ≤ v ∧ v < bnd k, ⟨l1, 0, none, rfl, g1, by decide, by decide⟩, fun k d ρ hdk ⟨l2, v, y, eρ, g2, q3, q4⟩ => ?_, fun ρ ⟨l2, v, y, eρ, g2, q3, q4⟩ => ?_⟩
          · subst eρ
            obtain ⟨hk, rfl⟩ := intsD_get hdk
            refine w_nm (Nat.le_of_ble_eq_true rfl) ?_
            show wB C _ [some (.lst true l2), some (.int way), some (.int v), some (.int (0 + (k : Int)))] _
            have hk : k < 4 := hk
            have hv : v < 10 ^ 30 := by
              rcases (by omega : k = 0 ∨ k = 1 ∨ k = 2 ∨ k = 3) with rfl | rfl | rfl | rfl <;> simp only [bnd] at q4 <;> omega
            (repeat (first
              | refine w_bcons ?_ | refine w_asg ?_ | refine w_par ?_ | refine w_exp ?_ | refine w_ife ?_ | refine w_ret ?_ | refine w_bnil ?_ | refine w_brk ?_ | refine w_cnt ?_
              | refine w_con ?_ | refine w_bin ?_ | refine w_neg ?_ | refine w_not ?_ | refine w_and ?_ | refine w_or ?_ | refine w_ifx ?_ | refine w_cmp ?_ | refine w_chain ?_
              | refine w_anil ?_ | refine w_acons ?_ | refine w_tup ?_ | refine w_lst ?_ | refine w_sub ?_ | refine w_ono ?_ | refine w_oso ?_ | refine w_slice ?_ | refine w_blt ?_ | refine w_isi ?_
              | refine w_call ?_ | refine w_ckw ?_ | refine w_rvl ?_ | refine w_lrg ?_ | refine w_to ?_ | refine w_ft ?_ | refine w_it ?_ | refine w_rng ?_ | refine w_enu ?_ | refine w_comp ?_
              | refine w_tp ?_ | refine w_tnil ?_ | refine w_tcons ?_
              | refine w_var (d := _) rfl rfl ?_ | refine w_varO (d := _) rfl rfl ?_ | refine w_lnv (d := _) rfl rfl ?_ | refine w_sbv (d0 := _) rfl ?_ | refine w_cio (d0 := _) rfl ?_ | refine w_app (l0 := _) rfl ?_ | refine w_st (d0 := _) rfl ?_ | refine w_retv (d := _) rfl ?_
              | refine w_nm (Nat.le_of_ble_eq_true rfl) ?_
              | refine ex_some (o_add _ _) ?_ | refine ex_some (o_sub _ _) ?_ | refine ex_some rfl ?_ | refine ex_int ?_ | refine ex_lst ?_ | refine ex_sbv rfl rfl rfl ?_ | refine ex_st rfl rfl rfl ?_
              | (refine ⟨(Nat.le_of_ble_eq_true rfl : _ ≤ lim), ?_⟩)))
            refine ex_some (o_mulS (by omega) (by omega) (by decide) (by decide)) ?_
            (repeat (first
              | refine w_bcons ?_ | refine w_asg ?_ | refine w_par ?_ | refine w_exp ?_ | refine w_ife ?_ | refine w_ret ?_ | refine w_bnil ?_ | refine w_brk ?_ | refine w_cnt ?_
              | refine w_con ?_ | refine w_bin ?_ | refine w_neg ?_ | refine w_not ?_ | refine w_and ?_ | refine w_or ?_ | refine w_ifx ?_ | refine w_cmp ?_ | refine w_chain ?_
              | refine w_anil ?_ | refine w_acons ?_ | refine w_tup ?_ | refine w_lst ?_ | refine w_sub ?_ | refine w_ono ?_ | refine w_oso ?_ | refine w_slice ?_ | refine w_blt ?_ | refine w_isi ?_
              | refine w_call ?_ | refine w_ckw ?_ | refine w_rvl ?_ | refine w_lrg ?_ | refine w_to ?_ | refine w_ft ?_ | refine w_it ?_ | refine w_rng ?_ | refine w_enu ?_ | refine w_comp ?_
              | refine w_tp ?_ | refine w_tnil ?_ | refine w_tcons ?_
              | refine w_var (d := _) rfl rfl ?_ | refine w_varO (d := _) rfl rfl ?_ | refine w_lnv (d := _) rfl rfl ?_ | refine w_sbv (d0 := _) rfl ?_ | refine w_cio (d0 := _) rfl ?_ | refine w_app (l0 := _) rfl ?_ | refine w_st (d0 := _) rfl ?_ | refine w_retv (d := _) rfl ?_
              | refine w_nm (Nat.le_of_ble_eq_true rfl) ?_
              | refine ex_some (o_add _ _) ?_ | refine ex_some (o_sub _ _) ?_ | refine ex_some rfl ?_ | refine ex_int ?_ | refine ex_lst ?_ | refine ex_sbv rfl rfl rfl ?_ | refine ex_st rfl rfl rfl ?_
              | (refine ⟨(Nat.le_of_ble_eq_true rfl : _ ≤ lim), ?_⟩)))
            obtain ⟨r, l3, e3, q5, q6, g3⟩ := hd l2 (10 ^ 8) g2 (by decide) (by decide)
            refine ⟨_, _, _, rfl, e3, ?_⟩
            (repeat (first
              | refine w_bcons ?_ | refine w_asg ?_ | refine w_par ?_ | refine w_exp ?_ | refine w_ife ?_ | refine w_ret ?_ | refine w_bnil ?_ | refine w_brk ?_ | refine w_cnt ?_
              | refine w_con ?_ | refine w_bin ?_ | refine w_neg ?_ | refine w_not ?_ | refine w_and ?_ | refine w_or ?_ | refine w_ifx ?_ | refine w_cmp ?_ | refine w_chain ?_
              | refine w_anil ?_ | refine w_acons ?_ | refine w_tup ?_ | refine w_lst ?_ | refine w_sub ?_ | refine w_ono ?_ | refine w_oso ?_ | refine w_slice ?_ | refine w_blt ?_ | refine w_isi ?_
              | refine w_call ?_ | refine w_ckw ?_ | refine w_rvl ?_ | refine w_lrg ?_ | refine w_to ?_ | refine w_ft ?_ | refine w_it ?_ | refine w_rng ?_ | refine w_enu ?_ | refine w_comp ?_
              | refine w_tp ?_ | refine w_tnil ?_ | refine w_tcons ?_
              | refine w_var (d := _) rfl rfl ?_ | refine w_varO (d := _) rfl rfl ?_ | refine w_lnv (d := _) rfl rfl ?_ | refine w_sbv (d0 := _) rfl ?_ | refine w_cio (d0 := _) rfl ?_ | refine w_app (l0 := _) rfl ?_ | refine w_st (d0 := _) rfl ?_ | refine w_retv (d := _) rfl ?_
              | refine w_nm (Nat.le_of_ble_eq_true rfl) ?_
              | refine ex_some (o_add _ _) ?_ | refine ex_some (o_sub _ _) ?_ | refine ex_some rfl ?_ | refine ex_int ?_ | refine ex_lst ?_ | refine ex_sbv rfl rfl rfl ?_ | refine ex_st rfl rfl rfl ?_
              | (refine ⟨(Nat.le_of_ble_eq_true rfl : _ ≤ lim), ?_⟩)))
            refine ⟨l3, v * 10 ^ 8 + r, some (.int (0 + (k : Int))), rfl, g3, by omega, ?_⟩
            rcases (by omega : k = 0 ∨ k = 1 ∨ k = 2 ∨ k = 3) with rfl | rfl | rfl | rfl <;> simp only [bnd] at q4 ⊢ <;> omega
          · subst eρ
            refine ⟨rfl, l2, v, rfl, g2, q3, ?_⟩
            have q4 : v < 100000000000000000000000000000000 := q4
            omega
        · subst eρ
          (repeat (first
            | refine w_bcons ?_ | refine w_asg ?_ | refine w_par ?_ | refine w_exp ?_ | refine w_ife ?_ | refine w_ret ?_ | refine w_bnil ?_ | refine w_brk ?_ | refine w_cnt ?_
            | refine w_con ?_ | refine w_bin ?_ | refine w_neg ?_ | refine w_not ?_ | refine w_and ?_ | refine w_or ?_ | refine w_ifx ?_ | refine w_cmp ?_ | refine w_chain ?_
            | refine w_anil ?_ | refine w_acons ?_ | refine w_tup ?_ | refine w_lst ?_ | refine w_sub ?_ | refine w_ono ?_ | refine w_oso ?_ | refine w_slice ?_ | refine w_blt ?_ | refine w_isi ?_
            | refine w_call ?_ | refine w_ckw ?_ | refine w_rvl ?_ | refine w_lrg ?_ | refine w_to ?_ | refine w_ft ?_ | refine w_it ?_ | refine w_rng ?_ | refine w_enu ?_ | refine w_comp ?_
            | refine w_tp ?_ | refine w_tnil ?_ | refine w_tcons ?_
            | refine w_var (d := _) rfl rfl ?_ | refine w_varO (d := _) rfl rfl ?_ | refine w_lnv (d := _) rfl rfl ?_ | refine w_sbv (d0 := _) rfl ?_ | refine w_cio (d0 := _) rfl ?_ | refine w_app (l0 := _) rfl ?_ | refine w_st (d0 := _) rfl ?_ | refine w_retv (d := _) rfl ?_
            | refine w_nm (Nat.le_of_ble_eq_true rfl) ?_
            | refine ex_some (o_add _ _) ?_ | refine ex_some (o_sub _ _) ?_ | refine ex_some rfl ?_ | refine ex_int ?_ | refine ex_lst ?_ | refine ex_sbv rfl rfl rfl ?_ | refine ex_st rfl rfl rfl ?_
            | (refine ⟨(Nat.le_of_ble_eq_true rfl : _ ≤ lim), ?_⟩)))
          have u1 : 0 ≤ v % (10 ^ 30 + 1) := Int.emod_nonneg _ (by decide)
          have u2 : v % (10 ^ 30 + 1) < 10 ^ 30 + 1 := Int.emod_lt_of_pos _ (by decide)
          refine w_cut (fun ρ => ∃ l2 v, ρ = [some (.lst true l2), some (.int way), some (.int v), none] ∧ Bg l2 ∧ 0 ≤ v ∧ v ≤ 10 ^ 30) ?_ fun ρ ⟨l3, v, eρ, g3, q5, q6⟩ => ?_
          · refine w_for ?_
            (repeat (first
              | refine w_bcons ?_ | refine w_asg ?_ | refine w_par ?_ | refine w_exp ?_ | refine w_ife ?_ | refine w_ret ?_ | refine w_bnil ?_ | refine w_brk ?_ | refine w_cnt ?_
              | refine w_con ?_ | refine w_bin ?_ | refine w_neg ?_ | refine w_not ?_ | refine w_and ?_ | refine w_or ?_ | refine w_ifx ?_ | refine w_cmp ?_ | refine w_chain ?_
              | refine w_anil ?_ | refine w_acons ?_ | refine w_tup ?_ | refine w_lst ?_ | refine w_sub ?_ | refine w_ono ?_ | refine w_oso ?_ | refine w_slice ?_ | refine w_blt ?_ | refine w_isi ?_
              | refine w_call ?_ | refine w_ckw ?_ | refine w_rvl ?_ | refine w_lrg ?_ | refine w_to ?_ | refine w_ft ?_ | refine w_it ?_ | refine w_rng ?_ | refine w_enu ?_ | refine w_comp ?_
              | refine w_tp ?_ | refine w_tnil ?_ | refine w_tcons ?_
              | refine w_var (d := _) rfl rfl ?_ | refine w_varO (d := _) rfl rfl ?_ | refine w_lnv (d := _) rfl rfl ?_ | refine w_sbv (d0 := _) rfl ?_ | refine w_cio (d0 := _) rfl ?_ | refine w_app (l0 := _) rfl ?_ | refine w_st (d0 := _) rfl ?_ | refine w_retv (d := _) rfl ?_
              | refine w_nm (Nat.le_of_ble_eq_true rfl) ?_
              | refine ex_some (o_add _ _) ?_ | refine ex_some (o_sub _ _) ?_ | refine ex_some rfl ?_ | refine ex_int ?_ | refine ex_lst ?_ | refine ex_sbv rfl rfl rfl ?_ | refine ex_st rfl rfl rfl ?_
              | (refine ⟨(Nat.le_of_ble_eq_true rfl : _ ≤ lim), ?_⟩)))
            obtain ⟨r, l3, e3, q5, q6, g3⟩ := hd l2 25 g2 (by decide) (by decide)
            refine ⟨_, _, _, rfl, e3, ?_⟩
            refine ex_num (i := r) (sm62 (by omega)) ?_
            refine ⟨fun k ρ => ∃ v y, ρ = [some (.lst true l3), some (.int way), some (.int v), y] ∧ 0 ≤ v ∧ v ≤ 10 ^ 30, ⟨v % (10 ^ 30 + 1), none, rfl, u1, by omega⟩, fun k d ρ hdk ⟨v, y, eρ, q7, q8⟩ => ?_, fun ρ ⟨v, y, eρ, q7, q8⟩ => ?_⟩
            · subst eρ
              obtain ⟨hk, rfl⟩ := intsD_get hdk
              refine w_nm (Nat.le_of_ble_eq_true rfl) ?_
              show wB C _ [some (.lst true l3), some (.int way), some (.int v), some (.int (0 + (k : Int)))] _
              (repeat (first
                | refine w_bcons ?_ | refine w_asg ?_ | refine w_par ?_ | refine w_exp ?_ | refine w_ife ?_ | refine w_ret ?_ | refine w_bnil ?_ | refine w_brk ?_ | refine w_cnt ?_
                | refine w_con ?_ | refine w_bin ?_ | refine w_neg ?_ | refine w_not ?_ | refine w_and ?_ | refine w_or ?_ | refine w_ifx ?_ | refine w_cmp ?_ | refine w_chain ?_
                | refine w_anil ?_ | refine w_acons ?_ | refine w_tup ?_ | refine w_lst ?_ | refine w_sub ?_ | refine w_ono ?_ | refine w_oso ?_ | refine w_slice ?_ | refine w_blt ?_ | refine w_isi ?_
                | refine w_call ?_ | refine w_ckw ?_ | refine w_rvl ?_ | refine w_lrg ?_ | refine w_to ?_ | refine w_ft ?_ | refine w_it ?_ | refine w_rng ?_ | refine w_enu ?_ | refine w_comp ?_
                | refine w_tp ?_ | refine w_tnil ?_ | refine w_tcons ?_
                | refine w_var (d := _) rfl rfl ?_ | refine w_varO (d := _) rfl rfl ?_ | refine w_lnv (d := _) rfl rfl ?_ | refine w_sbv (d0 := _) rfl ?_ | refine w_cio (d0 := _) rfl ?_ | refine w_app (l0 := _) rfl ?_ | refine w_st (d0 := _) rfl ?_ | refine w_retv (d := _) rfl ?_
                | refine w_nm (Nat.le_of_ble_eq_true rfl) ?_
                | refine ex_some (o_add _ _) ?_ | refine ex_some (o_sub _ _) ?_ | refine ex_some rfl ?_ | refine ex_int ?_ | refine ex_lst ?_ | refine ex_sbv rfl rfl rfl ?_ | refine ex_st rfl rfl rfl ?_
                | (refine ⟨(Nat.le_of_ble_eq_true rfl : _ ≤ lim), ?_⟩)))
              exact ⟨v / 10, _, rfl, by omega, by omega⟩
            · subst eρ
              exact ⟨rfl, l3, v, rfl, g3, q7, q8⟩
          · subst eρ
            (repeat (first
              | refine w_bcons ?_ | refine w_asg ?_ | refine w_par ?_ | refine w_exp ?_ | refine w_ife ?_ | refine w_ret ?_ | refine w_bnil ?_ | refine w_brk ?_ | refine w_cnt ?_
              | refine w_con ?_ | refine w_bin ?_ | refine w_neg ?_ | refine w_not ?_ | refine w_and ?_ | refine w_or ?_ | refine w_ifx ?_ | refine w_cmp ?_ | refine w_chain ?_
              | refine w_anil ?_ | refine w_acons ?_ | refine w_tup ?_ | refine w_lst ?_ | refine w_sub ?_ | refine w_ono ?_ | refine w_oso ?_ | refine w_slice ?_ | refine w_blt ?_ | refine w_isi ?_
              | refine w_call ?_ | refine w_ckw ?_ | refine w_rvl ?_ | refine w_lrg ?_ | refine w_to ?_ | refine w_ft ?_ | refine w_it ?_ | refine w_rng ?_ | refine w_enu ?_ | refine w_comp ?_
              | refine w_tp ?_ | refine w_tnil ?_ | refine w_tcons ?_
              | refine w_var (d := _) rfl rfl ?_ | refine w_varO (d := _) rfl rfl ?_ | refine w_lnv (d := _) rfl rfl ?_ | refine w_sbv (d0 := _) rfl ?_ | refine w_cio (d0 := _) rfl ?_ | refine w_app (l0 := _) rfl ?_ | refine w_st (d0 := _) rfl ?_ | refine w_retv (d := _) rfl ?_
              | refine w_nm (Nat.le_of_ble_eq_true rfl) ?_
              | refine ex_some (o_add _ _) ?_ | refine ex_some (o_sub _ _) ?_ | refine ex_some rfl ?_ | refine ex_int ?_ | refine ex_lst ?_ | refine ex_sbv rfl rfl rfl ?_ | refine ex_st rfl rfl rfl ?_
              | (refine ⟨(Nat.le_of_ble_eq_true rfl : _ ≤ lim), ?_⟩)))
            obtain ⟨r, l4, e4, _, _, g4⟩ := hd l3 2 g3 (by decide) (by decide)
            refine ⟨_, _, _, rfl, e4, ?_⟩
            (repeat (first
              | refine w_bcons ?_ | refine w_asg ?_ | refine w_par ?_ | refine w_exp ?_ | refine w_ife ?_ | refine w_ret ?_ | refine w_bnil ?_ | refine w_brk ?_ | refine w_cnt ?_
              | refine w_con ?_ | refine w_bin ?_ | refine w_neg ?_ | refine w_not ?_ | refine w_and ?_ | refine w_or ?_ | refine w_ifx ?_ | refine w_cmp ?_ | refine w_chain ?_
              | refine w_anil ?_ | refine w_acons ?_ | refine w_tup ?_ | refine w_lst ?_ | refine w_sub ?_ | refine w_ono ?_ | refine w_oso ?_ | refine w_slice ?_ | refine w_blt ?_ | refine w_isi ?_
              | refine w_call ?_ | refine w_ckw ?_ | refine w_rvl ?_ | refine w_lrg ?_ | refine w_to ?_ | refine w_ft ?_ | refine w_it ?_ | refine w_rng ?_ | refine w_enu ?_ | refine w_comp ?_
              | refine w_tp ?_ | refine w_tnil ?_ | refine w_tcons ?_
              | refine w_var (d := _) rfl rfl ?_ | refine w_varO (d := _) rfl rfl ?_ | refine w_lnv (d := _) rfl rfl ?_ | refine w_sbv (d0 := _) rfl ?_ | refine w_cio (d0 := _) rfl ?_ | refine w_app (l0 := _) rfl ?_ | refine w_st (d0 := _) rfl ?_ | refine w_retv (d := _) rfl ?_
              | refine w_nm (Nat.le_of_ble_eq_true rfl) ?_
              | refine ex_some (o_add _ _) ?_ | refine ex_some (o_sub _ _) ?_ | refine ex_some rfl ?_ | refine ex_int ?_ | refine ex_lst ?_ | refine ex_sbv rfl rfl rfl ?_ | refine ex_st rfl rfl rfl ?_
              | (refine ⟨(Nat.le_of_ble_eq_true rfl : _ ≤ lim), ?_⟩)))
            refine ex_dec (fun h0 => ?_) (fun h0 => ?_)
            · (repeat (first
                | refine w_bcons ?_ | refine w_asg ?_ | refine w_par ?_ | refine w_exp ?_ | refine w_ife ?_ | refine w_ret ?_ | refine w_bnil ?_ | refine w_brk ?_ | refine w_cnt ?_
                | refine w_con ?_ | refine w_bin ?_ | refine w_neg ?_ | refine w_not ?_ | refine w_and ?_ | refine w_or ?_ | refine w_ifx ?_ | refine w_cmp ?_ | refine w_chain ?_
                | refine w_anil ?_ | refine w_acons ?_ | refine w_tup ?_ | refine w_lst ?_ | refine w_sub ?_ | refine w_ono ?_ | refine w_oso ?_ | refine w_slice ?_ | refine w_blt ?_ | refine w_isi ?_
                | refine w_call ?_ | refine w_ckw ?_ | refine w_rvl ?_ | refine w_lrg ?_ | refine w_to ?_ | refine w_ft ?_ | refine w_it ?_ | refine w_rng ?_ | refine w_enu ?_ | refine w_comp ?_
                | refine w_tp ?_ | refine w_tnil ?_ | refine w_tcons ?_
                | refine w_var (d := _) rfl rfl ?_ | refine w_varO (d := _) rfl rfl ?_ | refine w_lnv (d := _) rfl rfl ?_ | refine w_sbv (d0 := _) rfl ?_ | refine w_cio (d0 := _) rfl ?_ | refine w_app (l0 := _) rfl ?_ | refine w_st (d0 := _) rfl ?_ | refine w_retv (d := _) rfl ?_
                | refine w_nm (Nat.le_of_ble_eq_true rfl) ?_
                | refine ex_some (o_add _ _) ?_ | refine ex_some (o_sub _ _) ?_ | refine ex_some rfl ?_ | refine ex_int ?_ | refine ex_lst ?_ | refine ex_sbv rfl rfl rfl ?_ | refine ex_st rfl rfl rfl ?_
                | (refine ⟨(Nat.le_of_ble_eq_true rfl : _ ≤ lim), ?_⟩)))
              exact ⟨_, rfl, v, l4, rfl, rfl, by omega, by omega, g4⟩
            · (repeat (first
                | refine w_bcons ?_ | refine w_asg ?_ | refine w_par ?_ | refine w_exp ?_ | refine w_ife ?_ | refine w_ret ?_ | refine w_bnil ?_ | refine w_brk ?_ | refine w_cnt ?_
                | refine w_con ?_ | refine w_bin ?_ | refine w_neg ?_ | refine w_not ?_ | refine w_and ?_ | refine w_or ?_ | refine w_ifx ?_ | refine w_cmp ?_ | refine w_chain ?_
                | refine w_anil ?_ | refine w_acons ?_ | refine w_tup ?_ | refine w_lst ?_ | refine w_sub ?_ | refine w_ono ?_ | refine w_oso ?_ | refine w_slice ?_ | refine w_blt ?_ | refine w_isi ?_
                | refine w_call ?_ | refine w_ckw ?_ | refine w_rvl ?_ | refine w_lrg ?_ | refine w_to ?_ | refine w_ft ?_ | refine w_it ?_ | refine w_rng ?_ | refine w_enu ?_ | refine w_comp ?_
                | refine w_tp ?_ | refine w_tnil ?_ | refine w_tcons ?_
                | refine w_var (d := _) rfl rfl ?_ | refine w_varO (d := _) rfl rfl ?_ | refine w_lnv (d := _) rfl rfl ?_ | refine w_sbv (d0 := _) rfl ?_ | refine w_cio (d0 := _) rfl ?_ | refine w_app (l0 := _) rfl ?_ | refine w_st (d0 := _) rfl ?_ | refine w_retv (d := _) rfl ?_
                | refine w_nm (Nat.le_of_ble_eq_true rfl) ?_
                | refine ex_some (o_add _ _) ?_ | refine ex_some (o_sub _ _) ?_ | refine ex_some rfl ?_ | refine ex_int ?_ | refine ex_lst ?_ | refine ex_sbv rfl rfl rfl ?_ | refine ex_st rfl rfl rfl ?_
                | (refine ⟨(Nat.le_of_ble_eq_true rfl : _ ≤ lim), ?_⟩)))
              exact ⟨_, rfl, -v, l4, rfl, rfl, by omega, by omega, g4⟩
end R49

namespace R49
open PySem PySem.Spec Rr
/-! ### the primes and their numbers: a table -/
def prs : List (Int × Int) := [(2, 1), (3, 1), (3, 2), (5, 1), (5, 2), (5, 3), (5, 4), (7, 1), (7, 2), (7, 3), (7, 4), (7, 5), (7, 6), (11, 1), (11, 2), (11, 3), (11, 4), (11, 5), (11, 6), (11, 7), (11, 8), (11, 9), (11, 10),
  (13, 1), (13, 2), (13, 3), (13, 4), (13, 5), (13, 6), (13, 7), (13, 8), (13, 9), (13, 10), (13, 11), (13, 12)]
def ord (p c : Int) : Nat := ((List.range 13).find? fun e => decide (0 < e) && decide (c ^ e % p = 1)).getD 1
def pw (p c : Int) : List Int := (List.range (ord p c)).map fun i => c ^ i % p
def isI (r : Option (D × List D)) (i : Int) : Bool := match r with
  | some (.int j, []) => decide (j = i)
  | _ => false
def asInts : List D → Option (List Int)
  | [] => some []
  | .int i :: r => (asInts r).map (i :: ·)
  | _ :: _ => none
def isL (r : Option (D × List D)) (xs : List Int) : Bool := match r with
  | some (.lst true ds, []) => decide (asInts ds = some xs)
  | _ => false
theorem isI_ok {r : Option (D × List D)} {i : Int} (h : isI r i = true) : r = some (.int i, []) := by
  unfold isI at h
  split at h
  · rw [of_decide_eq_true h]
  · cases h
theorem asInts_ok : ∀ {ds : List D} {xs : List Int}, asInts ds = some xs → ds = iA xs
  | [], xs, h => by cases h; rfl
  | d :: ds, xs, h => by
    cases d with
    | int i =>
      unfold asInts at h
      obtain ⟨ys, h1, rfl⟩ := Option.map_eq_some_iff.mp h
      rw [asInts_ok h1]
      rfl
    | _ => cases h
theorem isL_ok {r : Option (D × List D)} {xs : List Int} (h : isL r xs = true) : r = some (.lst true (iA xs), []) := by
  unfold isL at h
  split at h
  · rw [asInts_ok (of_decide_eq_true h)]
  · cases h
def tabOk (C : Fn) (q : Int × Int) : Bool := decide (0 < ord q.1 q.2) && decide (ord q.1 q.2 ≤ 12) && decide ((q.1 - 1).toNat % ord q.1 q.2 = 0) && decide (q.2 ^ ord q.1 q.2 % q.1 = 1) && isI (runF C m_number_order [.int q.1, .int q.2]) (ord q.1 q.2) &&
  isL (runF C m__law_powers [.int q.1, .int q.2]) (pw q.1 q.2) && ((List.range (q.1 - 1).toNat).all fun t => isI (runF C m_number_power [.int q.1, .int q.2, .int (t : Int)]) (q.2 ^ t % q.1)) && ((List.range (ord q.1 q.2)).all fun i => decide (i = 0 ∨ q.2 ^ i % q.1 ≠ 1)) &&
  ((List.range q.1.toNat).all fun x => (List.range q.1.toNat).all fun y => decide ((x * y : Nat) % q.1.toNat ≠ 0 ∨ x = 0 ∨ y = 0)) && decide (1 < q.1) && decide (q.1 ≤ 13) && decide (1 ≤ q.2) && decide (q.2 < q.1)
theorem tab (C : Fn) : prs.all (tabOk C) = true := by kernel_rfl
theorem mem_prs {p c : Int} (hp : p = 2 ∨ p = 3 ∨ p = 5 ∨ p = 7 ∨ p = 11 ∨ p = 13) (h1 : 1 ≤ c) (h2 : c < p) : (p, c) ∈ prs := by
  rcases hp with rfl | rfl | rfl | rfl | rfl | rfl
  · rcases (by omega : c = 1) with rfl; decide
  · rcases (by omega : c = 1 ∨ c = 2) with rfl | rfl <;> decide
  · rcases (by omega : c = 1 ∨ c = 2 ∨ c = 3 ∨ c = 4) with rfl | rfl | rfl | rfl <;> decide
  · rcases (by omega : c = 1 ∨ c = 2 ∨ c = 3 ∨ c = 4 ∨ c = 5 ∨ c = 6) with rfl | rfl | rfl | rfl | rfl | rfl <;> decide
  · rcases (by omega : c = 1 ∨ c = 2 ∨ c = 3 ∨ c = 4 ∨ c = 5 ∨ c = 6 ∨ c = 7 ∨ c = 8 ∨ c = 9 ∨ c = 10) with rfl | rfl | rfl | rfl | rfl | rfl | rfl | rfl | rfl | rfl <;> decide
  · rcases (by omega : c = 1 ∨ c = 2 ∨ c = 3 ∨ c = 4 ∨ c = 5 ∨ c = 6 ∨ c = 7 ∨ c = 8 ∨ c = 9 ∨ c = 10 ∨ c = 11 ∨ c = 12) with rfl | rfl | rfl | rfl | rfl | rfl | rfl | rfl | rfl | rfl | rfl | rfl <;> decide
structure PC (p c : Int) : Prop where
  o0 : 0 < ord p c
  o12 : ord p c ≤ 12
  od : (p - 1).toNat % ord p c = 0
  o1 : c ^ ord p c % p = 1
  no : ∀ C : Fn, runF C m_number_order [.int p, .int c] = some (.int (ord p c), [])
  pws : ∀ C : Fn, runF C m__law_powers [.int p, .int c] = some (.lst true (iA (pw p c)), [])
  np : ∀ (C : Fn) (t : Nat), t < (p - 1).toNat → runF C m_number_power [.int p, .int c, .int t] = some (.int (c ^ t % p), [])
  ol : ∀ i : Nat, 0 < i → i < ord p c → c ^ i % p ≠ 1
  nz : ∀ x y : Nat, x < p.toNat → y < p.toNat → x * y % p.toNat = 0 → x = 0 ∨ y = 0
  p1 : 1 < p
  p13 : p ≤ 13
  c1 : 1 ≤ c
  cp : c < p
theorem pc_of {p c : Int} (h : (p, c) ∈ prs) : PC p c := by
  have key := fun C => List.all_eq_true.mp (tab C) _ h
  unfold tabOk at key
  simp only [Bool.and_eq_true, decide_eq_true_eq, List.all_eq_true, List.mem_range] at key
  have k0 := key fun _ _ => none
  obtain ⟨⟨⟨⟨⟨⟨⟨⟨⟨⟨⟨⟨a1, a2⟩, a3⟩, a4⟩, a5⟩, a6⟩, a7⟩, a8⟩, a9⟩, a10⟩, a11⟩, a12⟩, a13⟩ := k0
  refine ⟨a1, a2, a3, a4, fun C => ?_, fun C => ?_, fun C t ht => ?_, fun i h0 hi => ?_, fun x y hx hy hz => ?_, a10, a11, a12, a13⟩
  · have := key C
    exact isI_ok this.1.1.1.1.1.1.1.1.2
  · have := key C
    exact isL_ok this.1.1.1.1.1.1.1.2
  · have := key C
    exact isI_ok (this.1.1.1.1.1.1.2 t ht)
  · rcases a8 i hi with z | z
    · omega
    · exact z
  · rcases a9 x hx y hy with z | z
    · exact absurd hz z
    · exact z
end R49

namespace R49
open PySem PySem.Spec Rr
section
variable {p c : Int} (h : PC p c)
include h
theorem PC.pow1 (q : Nat) : (c ^ ord p c) ^ q % p = 1 := by
  have := h.p1
  induction q with
  | zero => rw [Int.pow_zero]; exact Int.emod_eq_of_lt (by decide) h.p1
  | succ q ih => rw [Int.pow_succ, Int.mul_emod, ih, h.o1, Int.mul_one]; exact Int.emod_eq_of_lt (by decide) h.p1
theorem PC.red (a q : Nat) : c ^ (a + ord p c * q) % p = c ^ a % p := by
  rw [Int.pow_add, Int.pow_mul, Int.mul_emod, h.pow1, Int.mul_one, Int.emod_emod]
end
/-- the power of c, by any integer -/
def ex (p c : Int) (k : Int) : Int := c ^ ((k % (ord p c : Int)).toNat) % p
section
variable {p c : Int} (h : PC p c)
include h
theorem ex_nonneg (k : Int) : 0 ≤ ex p c k := Int.emod_nonneg _ (by have := h.p1; omega)
theorem ex_lt (k : Int) : ex p c k < p := Int.emod_lt_of_pos _ (by have := h.p1; omega)
theorem ex_nat (a : Nat) : ex p c a = c ^ a % p := by
  have e : ((a : Int) % (ord p c : Int)).toNat = a % ord p c := by
    rw [← Int.natCast_emod, Int.toNat_natCast]
  unfold ex
  rw [e]
  have := h.red (a % ord p c) (a / ord p c)
  rw [Nat.mod_add_div] at this
  exact this.symm
theorem ex_per (k q : Int) : ex p c (k + (ord p c : Int) * q) = ex p c k := by
  unfold ex
  rw [Int.add_mul_emod_self_left]
theorem ex_zero : ex p c 0 = 1 := by
  have := ex_nat h 0
  rw [Int.pow_zero] at this
  exact this.trans (Int.emod_eq_of_lt (by decide) h.p1)
theorem ex_add (k l : Int) : ex p c (k + l) = ex p c k * ex p c l % p := by
  have hm : (0 : Int) < (ord p c : Int) := by have := h.o0; omega
  have k0 := Int.emod_nonneg k (Int.ne_of_gt hm)
  have l0 := Int.emod_nonneg l (Int.ne_of_gt hm)
  have e1 : ex p c (k + l) = ex p c (((k % (ord p c : Int)).toNat + (l % (ord p c : Int)).toNat : Nat) : Int) := by
    rw [Int.natCast_add, Int.toNat_of_nonneg k0, Int.toNat_of_nonneg l0]
    have : k % (ord p c : Int) + l % (ord p c : Int) = (k + l) + (ord p c : Int) * (-(k / (ord p c : Int)) - l / (ord p c : Int)) := by
      have a := Int.mul_ediv_add_emod k (ord p c : Int)
      have b := Int.mul_ediv_add_emod l (ord p c : Int)
      rw [Int.mul_sub, Int.mul_neg]
      omega
    rw [this, ex_per h]
  rw [e1, ex_nat h, Int.pow_add]
  unfold ex
  rw [Int.mul_emod]
theorem ex_whole (q : Int) : ex p c ((ord p c : Int) * q) = 1 := by
  have := ex_per h 0 q
  rw [Int.zero_add] at this
  rw [this, ex_zero h]
end
/-- a row of numbers below p -/
structure Row (p : Int) (n : Nat) (row : List Int) : Prop where
  len : row.length = n
  lo : ∀ x ∈ row, 0 ≤ x ∧ x < p
/-- the row, led on both ways -/
def X (p c : Int) (row : List Int) (i : Int) : Int := row.getD (i % (row.length : Int)).toNat 0 * ex p c (-(i / (row.length : Int))) % p
/-- the row, turned -/
def T (p c : Int) (row : List Int) (by_ : Int) : List Int := (List.range row.length).map fun (j : Nat) => X p c row ((j : Int) - by_)
section
variable {p c : Int} {n : Nat} {row : List Int}
theorem eml (a b n : Int) : a % n * b % n = a * b % n := by rw [Int.mul_emod, Int.emod_emod, ← Int.mul_emod]
theorem emr (a b n : Int) : a * (b % n) % n = a * b % n := by rw [Int.mul_emod, Int.emod_emod, ← Int.mul_emod]
theorem T_len (by_ : Int) : (T p c row by_).length = row.length := by unfold T; rw [List.length_map, List.length_range]
theorem T_get {by_ : Int} {j : Nat} (hj : j < row.length) : (T p c row by_).getD j 0 = X p c row ((j : Int) - by_) := by
  unfold T
  rw [List.getD_eq_getElem?_getD, List.getElem?_map, List.getElem?_range hj]
  rfl
variable (h : PC p c)
include h
theorem X_shift (hn : 0 < row.length) (i q : Int) : X p c row (i + (row.length : Int) * q) = X p c row i * ex p c (-q) % p := by
  unfold X
  rw [Int.add_mul_emod_self_left, Int.add_mul_ediv_left _ _ (by omega), Int.neg_add, ex_add h, emr, eml, Int.mul_assoc]
theorem X_nonneg (i : Int) : 0 ≤ X p c row i := Int.emod_nonneg _ (by have := h.p1; omega)
theorem X_lt (i : Int) : X p c row i < p := Int.emod_lt_of_pos _ (by have := h.p1; omega)
theorem X_own (hr : Row p n row) {j : Nat} (hj : j < row.length) : X p c row j = row.getD j 0 := by
  unfold X
  have e1 : ((j : Int) % (row.length : Int)) = j := Int.emod_eq_of_lt (by omega) (by omega)
  have e2 : ((j : Int) / (row.length : Int)) = 0 := Int.ediv_eq_zero_of_lt (by omega) (by omega)
  rw [e1, e2, Int.neg_zero, ex_zero h, Int.mul_one, Int.toNat_natCast]
  have hm : row.getD j 0 ∈ row := by
    rw [List.getD_eq_getElem?_getD, List.getElem?_eq_getElem hj]
    exact List.getElem_mem hj
  exact Int.emod_eq_of_lt (hr.lo _ hm).1 (hr.lo _ hm).2
theorem X_T (hn : 0 < row.length) (a i : Int) : X p c (T p c row a) i = X p c row (i - a) := by
  have hl := T_len (p := p) (c := c) (row := row) a
  have hnz : (row.length : Int) ≠ 0 := by omega
  have i0 := Int.emod_nonneg i hnz
  have i1 := Int.emod_lt_of_pos i (by omega : (0 : Int) < row.length)
  have e0 : X p c (T p c row a) i = (T p c row a).getD (i % (row.length : Int)).toNat 0 * ex p c (-(i / (row.length : Int))) % p := by
    unfold X
    rw [hl]
  rw [e0, T_get (by omega)]
  have e1 : ((i % (row.length : Int)).toNat : Int) = i % (row.length : Int) := Int.toNat_of_nonneg i0
  rw [e1, ← X_shift h hn]
  congr 1
  have := Int.mul_ediv_add_emod i (row.length : Int)
  omega
theorem T_row (hr : Row p n row) (a : Int) : Row p n (T p c row a) := by
  refine ⟨by rw [T_len]; exact hr.len, fun x hx => ?_⟩
  unfold T at hx
  obtain ⟨j, _, rfl⟩ := List.mem_map.mp hx
  exact ⟨X_nonneg h _, X_lt h _⟩
theorem T_T (hn : 0 < row.length) (a b : Int) : T p c (T p c row a) b = T p c row (a + b) := by
  conv => lhs; unfold T
  conv => rhs; unfold T
  rw [show (List.map (fun (j : Nat) => X p c row (↑j - a)) (List.range row.length)).length = row.length from by rw [List.length_map, List.length_range]]
  refine List.map_congr_left fun j _ => ?_
  have := X_T h hn a ((j : Int) - b)
  have e : (j : Int) - b - a = (j : Int) - (a + b) := by omega
  rw [e] at this
  exact this
theorem T_own (hr : Row p n row) : T p c row 0 = row := by
  refine List.ext_getElem (T_len 0) fun j h1 h2 => ?_
  have := T_get (p := p) (c := c) (by_ := 0) h2
  rw [Int.sub_zero, X_own h hr h2, List.getD_eq_getElem?_getD, List.getD_eq_getElem?_getD, List.getElem?_eq_getElem h1, List.getElem?_eq_getElem h2] at this
  exact this
theorem T_whole (hr : Row p n row) (hn : 0 < row.length) : T p c row ((row.length * ord p c : Nat) : Int) = row := by
  rw [← T_own h hr]
  conv => lhs; rw [T_own h hr]
  unfold T
  refine List.map_congr_left fun j hj => ?_
  have hj := List.mem_range.mp hj
  have e : (j : Int) - ((row.length * ord p c : Nat) : Int) = (j : Int) + (row.length : Int) * (-(ord p c : Int)) := by rw [Int.mul_neg, Int.natCast_mul]; omega
  rw [e, X_shift h hn, Int.neg_neg, Int.sub_zero]
  have := ex_whole h 1
  rw [Int.mul_one] at this
  rw [this, Int.mul_one]
  exact Int.emod_eq_of_lt (X_nonneg h _) (X_lt h _)
/-! what leaves the row as it is -/
theorem fix_add (hn : 0 < row.length) {a b : Int} (ha : T p c row a = row) (hb : T p c row b = row) : T p c row (a + b) = row := by rw [← T_T h hn, ha, hb]
theorem fix_neg (hr : Row p n row) (hn : 0 < row.length) {a : Int} (ha : T p c row a = row) : T p c row (-a) = row := by
  have := T_T h hn a (-a)
  rw [ha, show a + -a = 0 from by omega, T_own h hr] at this
  exact this
theorem fix_mul (hr : Row p n row) (hn : 0 < row.length) {a : Int} (ha : T p c row a = row) (k : Nat) : T p c row (a * k) = row := by
  induction k with
  | zero => rw [show a * ((0 : Nat) : Int) = 0 from by simp]; exact T_own h hr
  | succ k ih =>
    rw [show a * ((k + 1 : Nat) : Int) = a * (k : Int) + a from by rw [Int.natCast_add, Int.mul_add]; simp]
    exact fix_add h hn ih ha
theorem fix_mulZ (hr : Row p n row) (hn : 0 < row.length) {a : Int} (ha : T p c row a = row) (k : Int) : T p c row (a * k) = row := by
  cases k with
  | ofNat k => exact fix_mul h hr hn ha k
  | negSucc k =>
    rw [Int.negSucc_eq, Int.mul_neg]
    exact fix_neg h hr hn (by exact_mod_cast fix_mul h hr hn ha (k + 1))
end
theorem least (P : Nat → Prop) [DecidablePred P] : ∀ n, P n → ∃ m, P m ∧ ∀ k, k < m → ¬ P k := by
  intro n
  induction n using Nat.strongRecOn with
  | _ n ih =>
    intro hn
    by_cases h : ∃ k, k < n ∧ P k
    · obtain ⟨k, hk, pk⟩ := h
      exact ih k hk pk
    · exact ⟨n, hn, fun k hk pk => h ⟨k, hk, pk⟩⟩
/-- the period of a row: g -/
structure Per (p c : Int) (row : List Int) (g : Nat) : Prop where
  pos : 0 < g
  iff : ∀ by_ : Int, T p c row by_ = row ↔ by_ % (g : Int) = 0
  dvd : (row.length * ord p c) % g = 0
theorem per_ex {p c : Int} {n : Nat} {row : List Int} (h : PC p c) (hr : Row p n row) (hn : 0 < row.length) : ∃ g, Per p c row g := by
  have hw : 0 < row.length * ord p c := Nat.mul_pos hn h.o0
  obtain ⟨g, ⟨g0, hg⟩, hmin⟩ := least (fun d => 0 < d ∧ T p c row (d : Int) = row) (row.length * ord p c) ⟨hw, T_whole h hr hn⟩
  have iff : ∀ by_ : Int, T p c row by_ = row ↔ by_ % (g : Int) = 0 := fun b => by
    refine ⟨fun hb => ?_, fun hb => ?_⟩
    · have hgz : (0 : Int) < g := by omega
      have r0 := Int.emod_nonneg b (Int.ne_of_gt hgz)
      have r1 := Int.emod_lt_of_pos b hgz
      have hf : T p c row (b % (g : Int)) = row := by
        have := fix_add h hn hb (fix_mulZ h hr hn hg (-(b / (g : Int))))
        have e : b + (g : Int) * (-(b / (g : Int))) = b % (g : Int) := by
          have := Int.mul_ediv_add_emod b (g : Int)
          rw [Int.mul_neg]
          omega
        rw [e] at this
        exact this
      by_cases hz : b % (g : Int) = 0
      · exact hz
      · have e : ((b % (g : Int)).toNat : Int) = b % (g : Int) := Int.toNat_of_nonneg r0
        exact absurd ⟨by omega, by rw [e]; exact hf⟩ (hmin (b % (g : Int)).toNat (by omega))
    · have := fix_mulZ h hr hn hg (b / (g : Int))
      have e : (g : Int) * (b / (g : Int)) = b := by
        have := Int.mul_ediv_add_emod b (g : Int)
        omega
      rw [e] at this
      exact this
  refine ⟨g, g0, iff, ?_⟩
  have := (iff _).mp (T_whole h hr hn)
  exact_mod_cast this
end R49

namespace R49
open PySem PySem.Spec Rr
theorem cut_from {xs : List D} {v : Int} (h0 : 0 ≤ v) (h : v ≤ xs.length) : cutD xs (some v) none = xs.drop v.toNat := by
  unfold cutD
  have e : HT.sIx xs.length 0 (some v) = v.toNat := by
    have := HT.sIx_nat xs.length 0 v.toNat
    rw [Int.toNat_of_nonneg h0] at this
    rw [this]; omega
  rw [e, show HT.sIx xs.length xs.length none = xs.length from rfl]
  exact List.take_of_length_le (by rw [List.length_drop]; omega)
theorem cut_to {xs : List D} {v : Int} (h0 : 0 ≤ v) (h : v ≤ xs.length) : cutD xs none (some v) = xs.take v.toNat := by
  unfold cutD
  have e : HT.sIx xs.length xs.length (some v) = v.toNat := by
    have := HT.sIx_nat xs.length xs.length v.toNat
    rw [Int.toNat_of_nonneg h0] at this
    rw [this]; omega
  rw [e, show HT.sIx xs.length 0 none = 0 from rfl, List.drop_zero, Nat.sub_zero]
def iD (f : Int → Int) : D → D
  | .int i => .int (f i)
  | d => d
theorem iD_map (f : Int → Int) (xs : List Int) : (iA xs).map (iD f) = iA (xs.map f) := by
  rw [iA, iA, List.map_map, List.map_map]
  rfl
/-- what bent_turned reckons -/
def BT (p c : Int) (row : List Int) (by_ : Int) : List Int :=
  let w := row.map fun x => x * ex p c (by_ / (row.length : Int)) % p
  (w.drop ((row.length : Int) - by_ % (row.length : Int)).toNat).map (fun x => x * c % p) ++ w.take ((row.length : Int) - by_ % (row.length : Int)).toNat
theorem ex_pw {p c : Int} (h : PC p c) (k : Int) : c ^ (k % (p - 1)).toNat % p = ex p c k := by
  have hp := h.p1
  have hz : (p - 1) ≠ 0 := by omega
  have k0 := Int.emod_nonneg k hz
  rw [← ex_nat h, Int.toNat_of_nonneg k0]
  have hd : ((p - 1).toNat : Int) = (ord p c : Int) * ((p - 1).toNat / ord p c : Nat) := by
    have := Nat.div_add_mod (p - 1).toNat (ord p c)
    rw [h.od, Nat.add_zero] at this
    exact_mod_cast this.symm
  have hp2 : ((p - 1).toNat : Int) = p - 1 := Int.toNat_of_nonneg (by omega)
  rw [hp2] at hd
  have e : k % (p - 1) = k + (ord p c : Int) * (-(((p - 1).toNat / ord p c : Nat) : Int) * (k / (p - 1))) := by
    have := Int.mul_ediv_add_emod k (p - 1)
    rw [← Int.mul_assoc, Int.mul_neg, ← hd, Int.neg_mul]
    omega
  rw [e, ex_per h]
theorem BT_eq {p c : Int} {n : Nat} {row : List Int} (h : PC p c) (hr : Row p n row) (hn : 0 < row.length) (by_ : Int) : BT p c row by_ = T p c row by_ := by
  have hz : (0 : Int) < row.length := by omega
  have s0 := Int.emod_nonneg by_ (Int.ne_of_gt hz)
  have s1 := Int.emod_lt_of_pos by_ hz
  have hdm := Int.mul_ediv_add_emod by_ (row.length : Int)
  have X_at : ∀ i : Nat, i < row.length → ∀ q : Int, X p c row ((i : Int) + (row.length : Int) * (-q)) = row.getD i 0 * ex p c q % p := fun i hi q => by
    rw [X_shift h hn, X_own h hr hi, Int.neg_neg]
  unfold BT
  simp only
  generalize hs : by_ % (row.length : Int) = s at *
  generalize hq : by_ / (row.length : Int) = q at *
  have e1 : ex p c (q + 1) = ex p c q * c % p := by
    have e := ex_nat h 1
    rw [Int.pow_one] at e
    have e : ex p c 1 = c % p := e
    rw [ex_add h q 1, e, emr]
  refine List.ext_getElem ?_ fun j h1 h2 => ?_
  · rw [List.length_append, List.length_map, List.length_drop, List.length_take, List.length_map, T_len]
    omega
  · rw [T_len] at h2
    have ht := T_get (p := p) (c := c) (by_ := by_) h2
    rw [List.getD_eq_getElem?_getD, List.getElem?_eq_getElem (by rw [T_len]; exact h2)] at ht
    have ht : (T p c row by_)[j]'(by rw [T_len]; exact h2) = X p c row ((j : Int) - by_) := ht
    rw [ht]
    by_cases hj : (j : Int) < s
    · rw [List.getElem_append_left (by rw [List.length_map, List.length_drop, List.length_map]; omega), List.getElem_map, List.getElem_drop, List.getElem_map]
      have hi : ((row.length : Int) - s).toNat + j < row.length := by omega
      have := X_at (((row.length : Int) - s).toNat + j) hi (q + 1)
      have e2 : ((((row.length : Int) - s).toNat + j : Nat) : Int) + (row.length : Int) * (-(q + 1)) = (j : Int) - by_ := by
        rw [Int.natCast_add, Int.toNat_of_nonneg (by omega), Int.mul_neg, Int.mul_add, Int.mul_one]
        omega
      rw [e2] at this
      rw [this, e1, emr, eml, Int.mul_assoc, List.getD_eq_getElem?_getD, List.getElem?_eq_getElem hi]
      rfl
    · have hlen : ((row.map fun x => x * ex p c q % p).drop ((row.length : Int) - s).toNat |>.map fun x => x * c % p).length = s.toNat := by
        rw [List.length_map, List.length_drop, List.length_map]
        omega
      rw [List.getElem_append_right (by rw [hlen]; omega), List.getElem_take, List.getElem_map]
      simp only [hlen]
      have hi : j - s.toNat < row.length := by omega
      have := X_at (j - s.toNat) hi q
      have e2 : ((j - s.toNat : Nat) : Int) + (row.length : Int) * (-q) = (j : Int) - by_ := by
        rw [Int.mul_neg]
        omega
      rw [e2] at this
      rw [this, List.getD_eq_getElem?_getD, List.getElem?_eq_getElem hi]
      rfl
def NpOk (C : Fn) (p c : Int) : Prop := ∀ t : Nat, t < (p - 1).toNat → C 0 [.int p, .int c, .int t] = some (.int (c ^ t % p), [])
theorem bturned (C : Fn) {p c : Int} {n : Nat} {row : List Int} (h : PC p c) (hC : NpOk C p c) (hr : Row p n row) (hn : 0 < row.length) (hn2 : row.length ≤ 16) (by_ : Int) : runF C m_bent_turned [.int p, .int c, iT row, .int by_] = some (iT (T p c row by_), []) := by
  rw [← BT_eq h hr hn]
  have p1 := h.p1
  have p13 := h.p13
  have c1 := h.c1
  have cp := h.cp
  have hz : (0 : Int) < row.length := by omega
  have s0 := Int.emod_nonneg by_ (Int.ne_of_gt hz)
  have s1 := Int.emod_lt_of_pos by_ hz
  refine w_run rfl (by decide) rfl ?_
  show wB C _ [some (.int p), some (.int c), some (iT row), some (.int by_), none, none, none, none, none, none] _
  (repeat (first
    | refine w_bcons ?_ | refine w_asg ?_ | refine w_par ?_ | refine w_exp ?_ | refine w_ife ?_ | refine w_ret ?_ | refine w_bnil ?_ | refine w_brk ?_ | refine w_cnt ?_
    | refine w_con ?_ | refine w_bin ?_ | refine w_neg ?_ | refine w_not ?_ | refine w_and ?_ | refine w_or ?_ | refine w_ifx ?_ | refine w_cmp ?_ | refine w_chain ?_
    | refine w_anil ?_ | refine w_acons ?_ | refine w_tup ?_ | refine w_lst ?_ | refine w_sub ?_ | refine w_ono ?_ | refine w_oso ?_ | refine w_slice ?_ | refine w_blt ?_ | refine w_isi ?_
    | refine w_call ?_ | refine w_ckw ?_ | refine w_rvl ?_ | refine w_lrg ?_ | refine w_to ?_ | refine w_ft ?_ | refine w_it ?_ | refine w_rng ?_ | refine w_enu ?_ | refine w_comp ?_
    | refine w_tp ?_ | refine w_tnil ?_ | refine w_tcons ?_
    | refine w_var (d := _) rfl rfl ?_ | refine w_varO (d := _) rfl rfl ?_ | refine w_lnv (d := _) rfl rfl ?_ | refine w_sbv (d0 := _) rfl ?_ | refine w_cio (d0 := _) rfl ?_ | refine w_app (l0 := _) rfl ?_ | refine w_st (d0 := _) rfl ?_ | refine w_retv (d := _) rfl ?_
    | refine w_nm (Nat.le_of_ble_eq_true rfl) ?_
    | refine ex_some (o_add _ _) ?_ | refine ex_some (o_sub _ _) ?_ | refine ex_some rfl ?_ | refine ex_int ?_ | refine ex_lst ?_ | refine ex_sbv rfl rfl rfl ?_ | refine ex_st rfl rfl rfl ?_
    | (refine ⟨(Nat.le_of_ble_eq_true rfl : _ ≤ lim), ?_⟩)))
  simp only [List.length_map]
  refine ex_some (o_fdivS hz (by omega)) ?_
  (repeat (first
    | refine w_bcons ?_ | refine w_asg ?_ | refine w_par ?_ | refine w_exp ?_ | refine w_ife ?_ | refine w_ret ?_ | refine w_bnil ?_ | refine w_brk ?_ | refine w_cnt ?_
    | refine w_con ?_ | refine w_bin ?_ | refine w_neg ?_ | refine w_not ?_ | refine w_and ?_ | refine w_or ?_ | refine w_ifx ?_ | refine w_cmp ?_ | refine w_chain ?_
    | refine w_anil ?_ | refine w_acons ?_ | refine w_tup ?_ | refine w_lst ?_ | refine w_sub ?_ | refine w_ono ?_ | refine w_oso ?_ | refine w_slice ?_ | refine w_blt ?_ | refine w_isi ?_
    | refine w_call ?_ | refine w_ckw ?_ | refine w_rvl ?_ | refine w_lrg ?_ | refine w_to ?_ | refine w_ft ?_ | refine w_it ?_ | refine w_rng ?_ | refine w_enu ?_ | refine w_comp ?_
    | refine w_tp ?_ | refine w_tnil ?_ | refine w_tcons ?_
    | refine w_var (d := _) rfl rfl ?_ | refine w_varO (d := _) rfl rfl ?_ | refine w_lnv (d := _) rfl rfl ?_ | refine w_sbv (d0 := _) rfl ?_ | refine w_cio (d0 := _) rfl ?_ | refine w_app (l0 := _) rfl ?_ | refine w_st (d0 := _) rfl ?_ | refine w_retv (d := _) rfl ?_
    | refine w_nm (Nat.le_of_ble_eq_true rfl) ?_
    | refine ex_some (o_add _ _) ?_ | refine ex_some (o_sub _ _) ?_ | refine ex_some rfl ?_ | refine ex_int ?_ | refine ex_lst ?_ | refine ex_sbv rfl rfl rfl ?_ | refine ex_st rfl rfl rfl ?_
    | (refine ⟨(Nat.le_of_ble_eq_true rfl : _ ≤ lim), ?_⟩)))
  refine ex_some (o_mod hz) ?_
  (repeat (first
    | refine w_bcons ?_ | refine w_asg ?_ | refine w_par ?_ | refine w_exp ?_ | refine w_ife ?_ | refine w_ret ?_ | refine w_bnil ?_ | refine w_brk ?_ | refine w_cnt ?_
    | refine w_con ?_ | refine w_bin ?_ | refine w_neg ?_ | refine w_not ?_ | refine w_and ?_ | refine w_or ?_ | refine w_ifx ?_ | refine w_cmp ?_ | refine w_chain ?_
    | refine w_anil ?_ | refine w_acons ?_ | refine w_tup ?_ | refine w_lst ?_ | refine w_sub ?_ | refine w_ono ?_ | refine w_oso ?_ | refine w_slice ?_ | refine w_blt ?_ | refine w_isi ?_
    | refine w_call ?_ | refine w_ckw ?_ | refine w_rvl ?_ | refine w_lrg ?_ | refine w_to ?_ | refine w_ft ?_ | refine w_it ?_ | refine w_rng ?_ | refine w_enu ?_ | refine w_comp ?_
    | refine w_tp ?_ | refine w_tnil ?_ | refine w_tcons ?_
    | refine w_var (d := _) rfl rfl ?_ | refine w_varO (d := _) rfl rfl ?_ | refine w_lnv (d := _) rfl rfl ?_ | refine w_sbv (d0 := _) rfl ?_ | refine w_cio (d0 := _) rfl ?_ | refine w_app (l0 := _) rfl ?_ | refine w_st (d0 := _) rfl ?_ | refine w_retv (d := _) rfl ?_
    | refine w_nm (Nat.le_of_ble_eq_true rfl) ?_
    | refine ex_some (o_add _ _) ?_ | refine ex_some (o_sub _ _) ?_ | refine ex_some rfl ?_ | refine ex_int ?_ | refine ex_lst ?_ | refine ex_sbv rfl rfl rfl ?_ | refine ex_st rfl rfl rfl ?_
    | (refine ⟨(Nat.le_of_ble_eq_true rfl : _ ≤ lim), ?_⟩)))
  refine ex_some (o_mod (by omega)) ?_
  (repeat (first
    | refine w_bcons ?_ | refine w_asg ?_ | refine w_par ?_ | refine w_exp ?_ | refine w_ife ?_ | refine w_ret ?_ | refine w_bnil ?_ | refine w_brk ?_ | refine w_cnt ?_
    | refine w_con ?_ | refine w_bin ?_ | refine w_neg ?_ | refine w_not ?_ | refine w_and ?_ | refine w_or ?_ | refine w_ifx ?_ | refine w_cmp ?_ | refine w_chain ?_
    | refine w_anil ?_ | refine w_acons ?_ | refine w_tup ?_ | refine w_lst ?_ | refine w_sub ?_ | refine w_ono ?_ | refine w_oso ?_ | refine w_slice ?_ | refine w_blt ?_ | refine w_isi ?_
    | refine w_call ?_ | refine w_ckw ?_ | refine w_rvl ?_ | refine w_lrg ?_ | refine w_to ?_ | refine w_ft ?_ | refine w_it ?_ | refine w_rng ?_ | refine w_enu ?_ | refine w_comp ?_
    | refine w_tp ?_ | refine w_tnil ?_ | refine w_tcons ?_
    | refine w_var (d := _) rfl rfl ?_ | refine w_varO (d := _) rfl rfl ?_ | refine w_lnv (d := _) rfl rfl ?_ | refine w_sbv (d0 := _) rfl ?_ | refine w_cio (d0 := _) rfl ?_ | refine w_app (l0 := _) rfl ?_ | refine w_st (d0 := _) rfl ?_ | refine w_retv (d := _) rfl ?_
    | refine w_nm (Nat.le_of_ble_eq_true rfl) ?_
    | refine ex_some (o_add _ _) ?_ | refine ex_some (o_sub _ _) ?_ | refine ex_some rfl ?_ | refine ex_int ?_ | refine ex_lst ?_ | refine ex_sbv rfl rfl rfl ?_ | refine ex_st rfl rfl rfl ?_
    | (refine ⟨(Nat.le_of_ble_eq_true rfl : _ ≤ lim), ?_⟩)))
  have q0 := Int.emod_nonneg (by_ / (row.length : Int)) (by omega : p - 1 ≠ 0)
  have q1 := Int.emod_lt_of_pos (by_ / (row.length : Int)) (by omega : 0 < p - 1)
  have hnp := hC (by_ / (row.length : Int) % (p - 1)).toNat (by omega)
  rw [Int.toNat_of_nonneg q0, ex_pw h] at hnp
  refine ⟨_, hnp, ?_⟩
  have f0 := ex_nonneg h (by_ / (row.length : Int))
  have f1 := ex_lt h (by_ / (row.length : Int))
  unfold BT
  simp only
  generalize ex p c (by_ / (row.length : Int)) = f at f0 f1
  generalize by_ / (row.length : Int) = q
  generalize by_ % (row.length : Int) = s at s0 s1
  (repeat (first
    | refine w_bcons ?_ | refine w_asg ?_ | refine w_par ?_ | refine w_exp ?_ | refine w_ife ?_ | refine w_ret ?_ | refine w_bnil ?_ | refine w_brk ?_ | refine w_cnt ?_
    | refine w_con ?_ | refine w_bin ?_ | refine w_neg ?_ | refine w_not ?_ | refine w_and ?_ | refine w_or ?_ | refine w_ifx ?_ | refine w_cmp ?_ | refine w_chain ?_
    | refine w_anil ?_ | refine w_acons ?_ | refine w_tup ?_ | refine w_lst ?_ | refine w_sub ?_ | refine w_ono ?_ | refine w_oso ?_ | refine w_slice ?_ | refine w_blt ?_ | refine w_isi ?_
    | refine w_call ?_ | refine w_ckw ?_ | refine w_rvl ?_ | refine w_lrg ?_ | refine w_to ?_ | refine w_ft ?_ | refine w_it ?_ | refine w_rng ?_ | refine w_enu ?_ | refine w_comp ?_
    | refine w_tp ?_ | refine w_tnil ?_ | refine w_tcons ?_
    | refine w_var (d := _) rfl rfl ?_ | refine w_varO (d := _) rfl rfl ?_ | refine w_lnv (d := _) rfl rfl ?_ | refine w_sbv (d0 := _) rfl ?_ | refine w_cio (d0 := _) rfl ?_ | refine w_app (l0 := _) rfl ?_ | refine w_st (d0 := _) rfl ?_ | refine w_retv (d := _) rfl ?_
    | refine w_nm (Nat.le_of_ble_eq_true rfl) ?_
    | refine ex_some (o_add _ _) ?_ | refine ex_some (o_sub _ _) ?_ | refine ex_some rfl ?_ | refine ex_int ?_ | refine ex_lst ?_ | refine ex_sbv rfl rfl rfl ?_ | refine ex_st rfl rfl rfl ?_
    | (refine ⟨(Nat.le_of_ble_eq_true rfl : _ ≤ lim), ?_⟩)))
  refine ⟨by rw [List.length_map]; show _ ≤ 1000000; omega, wC_map (iD fun x => x * f % p) (fun d hd => ?_) ?_⟩
  · obtain ⟨x, hx, rfl⟩ := List.mem_map.mp hd
    have hxx := hr.lo x hx
    refine w_nm (Nat.le_of_ble_eq_true rfl) ?_
    show wE C _ [some (.int p), some (.int c), some (iT row), some (.int by_), some (.int row.length), some (.int q), some (.int s), some (.int f), none, some (.int x)] _
    (repeat (first
      | refine w_bcons ?_ | refine w_asg ?_ | refine w_par ?_ | refine w_exp ?_ | refine w_ife ?_ | refine w_ret ?_ | refine w_bnil ?_ | refine w_brk ?_ | refine w_cnt ?_
      | refine w_con ?_ | refine w_bin ?_ | refine w_neg ?_ | refine w_not ?_ | refine w_and ?_ | refine w_or ?_ | refine w_ifx ?_ | refine w_cmp ?_ | refine w_chain ?_
      | refine w_anil ?_ | refine w_acons ?_ | refine w_tup ?_ | refine w_lst ?_ | refine w_sub ?_ | refine w_ono ?_ | refine w_oso ?_ | refine w_slice ?_ | refine w_blt ?_ | refine w_isi ?_
      | refine w_call ?_ | refine w_ckw ?_ | refine w_rvl ?_ | refine w_lrg ?_ | refine w_to ?_ | refine w_ft ?_ | refine w_it ?_ | refine w_rng ?_ | refine w_enu ?_ | refine w_comp ?_
      | refine w_tp ?_ | refine w_tnil ?_ | refine w_tcons ?_
      | refine w_var (d := _) rfl rfl ?_ | refine w_varO (d := _) rfl rfl ?_ | refine w_lnv (d := _) rfl rfl ?_ | refine w_sbv (d0 := _) rfl ?_ | refine w_cio (d0 := _) rfl ?_ | refine w_app (l0 := _) rfl ?_ | refine w_st (d0 := _) rfl ?_ | refine w_retv (d := _) rfl ?_
      | refine w_nm (Nat.le_of_ble_eq_true rfl) ?_
      | refine ex_some (o_add _ _) ?_ | refine ex_some (o_sub _ _) ?_ | refine ex_some rfl ?_ | refine ex_int ?_ | refine ex_lst ?_ | refine ex_sbv rfl rfl rfl ?_ | refine ex_st rfl rfl rfl ?_
      | (refine ⟨(Nat.le_of_ble_eq_true rfl : _ ≤ lim), ?_⟩)))
    refine ex_some (o_mulS (by omega) (by omega) (by omega) (by omega)) ?_
    (repeat (first
      | refine w_bcons ?_ | refine w_asg ?_ | refine w_par ?_ | refine w_exp ?_ | refine w_ife ?_ | refine w_ret ?_ | refine w_bnil ?_ | refine w_brk ?_ | refine w_cnt ?_
      | refine w_con ?_ | refine w_bin ?_ | refine w_neg ?_ | refine w_not ?_ | refine w_and ?_ | refine w_or ?_ | refine w_ifx ?_ | refine w_cmp ?_ | refine w_chain ?_
      | refine w_anil ?_ | refine w_acons ?_ | refine w_tup ?_ | refine w_lst ?_ | refine w_sub ?_ | refine w_ono ?_ | refine w_oso ?_ | refine w_slice ?_ | refine w_blt ?_ | refine w_isi ?_
      | refine w_call ?_ | refine w_ckw ?_ | refine w_rvl ?_ | refine w_lrg ?_ | refine w_to ?_ | refine w_ft ?_ | refine w_it ?_ | refine w_rng ?_ | refine w_enu ?_ | refine w_comp ?_
      | refine w_tp ?_ | refine w_tnil ?_ | refine w_tcons ?_
      | refine w_var (d := _) rfl rfl ?_ | refine w_varO (d := _) rfl rfl ?_ | refine w_lnv (d := _) rfl rfl ?_ | refine w_sbv (d0 := _) rfl ?_ | refine w_cio (d0 := _) rfl ?_ | refine w_app (l0 := _) rfl ?_ | refine w_st (d0 := _) rfl ?_ | refine w_retv (d := _) rfl ?_
      | refine w_nm (Nat.le_of_ble_eq_true rfl) ?_
      | refine ex_some (o_add _ _) ?_ | refine ex_some (o_sub _ _) ?_ | refine ex_some rfl ?_ | refine ex_int ?_ | refine ex_lst ?_ | refine ex_sbv rfl rfl rfl ?_ | refine ex_st rfl rfl rfl ?_
      | (refine ⟨(Nat.le_of_ble_eq_true rfl : _ ≤ lim), ?_⟩)))
    refine ex_some (o_mod (by omega)) ?_
    exact ⟨rfl, rfl⟩
  · rw [iD_map]
    refine w_nm (Nat.le_of_ble_eq_true rfl) ?_
    generalize hw : (row.map fun x => x * f % p) = w
    have hwl : w.length = row.length := by rw [← hw, List.length_map]
    have hwb : ∀ x ∈ w, 0 ≤ x ∧ x < p := fun x hx => by
      rw [← hw] at hx
      obtain ⟨y, _, rfl⟩ := List.mem_map.mp hx
      exact ⟨Int.emod_nonneg _ (by omega), Int.emod_lt_of_pos _ (by omega)⟩
    show wB C _ [some (.int p), some (.int c), some (iT row), some (.int by_), some (.int row.length), some (.int q), some (.int s), some (.int f), some (.lst true (iA w)), none] _
    (repeat (first
      | refine w_bcons ?_ | refine w_asg ?_ | refine w_par ?_ | refine w_exp ?_ | refine w_ife ?_ | refine w_ret ?_ | refine w_bnil ?_ | refine w_brk ?_ | refine w_cnt ?_
      | refine w_con ?_ | refine w_bin ?_ | refine w_neg ?_ | refine w_not ?_ | refine w_and ?_ | refine w_or ?_ | refine w_ifx ?_ | refine w_cmp ?_ | refine w_chain ?_
      | refine w_anil ?_ | refine w_acons ?_ | refine w_tup ?_ | refine w_lst ?_ | refine w_sub ?_ | refine w_ono ?_ | refine w_oso ?_ | refine w_slice ?_ | refine w_blt ?_ | refine w_isi ?_
      | refine w_call ?_ | refine w_ckw ?_ | refine w_rvl ?_ | refine w_lrg ?_ | refine w_to ?_ | refine w_ft ?_ | refine w_it ?_ | refine w_rng ?_ | refine w_enu ?_ | refine w_comp ?_
      | refine w_tp ?_ | refine w_tnil ?_ | refine w_tcons ?_
      | refine w_var (d := _) rfl rfl ?_ | refine w_varO (d := _) rfl rfl ?_ | refine w_lnv (d := _) rfl rfl ?_ | refine w_sbv (d0 := _) rfl ?_ | refine w_cio (d0 := _) rfl ?_ | refine w_app (l0 := _) rfl ?_ | refine w_st (d0 := _) rfl ?_ | refine w_retv (d := _) rfl ?_
      | refine w_nm (Nat.le_of_ble_eq_true rfl) ?_
      | refine ex_some (o_add _ _) ?_ | refine ex_some (o_sub _ _) ?_ | refine ex_some rfl ?_ | refine ex_int ?_ | refine ex_lst ?_ | refine ex_sbv rfl rfl rfl ?_ | refine ex_st rfl rfl rfl ?_
      | (refine ⟨(Nat.le_of_ble_eq_true rfl : _ ≤ lim), ?_⟩)))
    have kk : (row.length : Int) - s = (row.length : Int) + -s := Int.sub_eq_add_neg
    have k0 : 0 ≤ (row.length : Int) + -s := by omega
    have k1 : (row.length : Int) + -s ≤ (iA w).length := by rw [List.length_map]; omega
    have d1 : (iA w).drop ((row.length : Int) + -s).toNat = iA (w.drop ((row.length : Int) + -s).toNat) := List.map_drop.symm
    have d2 : (iA w).take ((row.length : Int) + -s).toNat = iA (w.take ((row.length : Int) + -s).toNat) := List.map_take.symm
    rw [kk]
    rw [fzA_i, cut_from k0 k1, d1, fzA_i]
    refine ⟨by rw [List.length_map, List.length_drop]; show _ ≤ 1000000; omega, wC_map (iD fun x => x * c % p) (fun d hd => ?_) ?_⟩
    · obtain ⟨x, hx, rfl⟩ := List.mem_map.mp hd
      have hxx := hwb x (List.mem_of_mem_drop hx)
      refine w_nm (Nat.le_of_ble_eq_true rfl) ?_
      show wE C _ [some (.int p), some (.int c), some (iT row), some (.int by_), some (.int row.length), some (.int q), some (.int s), some (.int f), some (.lst false (D.fzA (iA w))), some (.int x)] _
      (repeat (first
        | refine w_bcons ?_ | refine w_asg ?_ | refine w_par ?_ | refine w_exp ?_ | refine w_ife ?_ | refine w_ret ?_ | refine w_bnil ?_ | refine w_brk ?_ | refine w_cnt ?_
        | refine w_con ?_ | refine w_bin ?_ | refine w_neg ?_ | refine w_not ?_ | refine w_and ?_ | refine w_or ?_ | refine w_ifx ?_ | refine w_cmp ?_ | refine w_chain ?_
        | refine w_anil ?_ | refine w_acons ?_ | refine w_tup ?_ | refine w_lst ?_ | refine w_sub ?_ | refine w_ono ?_ | refine w_oso ?_ | refine w_slice ?_ | refine w_blt ?_ | refine w_isi ?_
        | refine w_call ?_ | refine w_ckw ?_ | refine w_rvl ?_ | refine w_lrg ?_ | refine w_to ?_ | refine w_ft ?_ | refine w_it ?_ | refine w_rng ?_ | refine w_enu ?_ | refine w_comp ?_
        | refine w_tp ?_ | refine w_tnil ?_ | refine w_tcons ?_
        | refine w_var (d := _) rfl rfl ?_ | refine w_varO (d := _) rfl rfl ?_ | refine w_lnv (d := _) rfl rfl ?_ | refine w_sbv (d0 := _) rfl ?_ | refine w_cio (d0 := _) rfl ?_ | refine w_app (l0 := _) rfl ?_ | refine w_st (d0 := _) rfl ?_ | refine w_retv (d := _) rfl ?_
        | refine w_nm (Nat.le_of_ble_eq_true rfl) ?_
        | refine ex_some (o_add _ _) ?_ | refine ex_some (o_sub _ _) ?_ | refine ex_some rfl ?_ | refine ex_int ?_ | refine ex_lst ?_ | refine ex_sbv rfl rfl rfl ?_ | refine ex_st rfl rfl rfl ?_
        | (refine ⟨(Nat.le_of_ble_eq_true rfl : _ ≤ lim), ?_⟩)))
      refine ex_some (o_mulS (by omega) (by omega) (by omega) (by omega)) ?_
      (repeat (first
        | refine w_bcons ?_ | refine w_asg ?_ | refine w_par ?_ | refine w_exp ?_ | refine w_ife ?_ | refine w_ret ?_ | refine w_bnil ?_ | refine w_brk ?_ | refine w_cnt ?_
        | refine w_con ?_ | refine w_bin ?_ | refine w_neg ?_ | refine w_not ?_ | refine w_and ?_ | refine w_or ?_ | refine w_ifx ?_ | refine w_cmp ?_ | refine w_chain ?_
        | refine w_anil ?_ | refine w_acons ?_ | refine w_tup ?_ | refine w_lst ?_ | refine w_sub ?_ | refine w_ono ?_ | refine w_oso ?_ | refine w_slice ?_ | refine w_blt ?_ | refine w_isi ?_
        | refine w_call ?_ | refine w_ckw ?_ | refine w_rvl ?_ | refine w_lrg ?_ | refine w_to ?_ | refine w_ft ?_ | refine w_it ?_ | refine w_rng ?_ | refine w_enu ?_ | refine w_comp ?_
        | refine w_tp ?_ | refine w_tnil ?_ | refine w_tcons ?_
        | refine w_var (d := _) rfl rfl ?_ | refine w_varO (d := _) rfl rfl ?_ | refine w_lnv (d := _) rfl rfl ?_ | refine w_sbv (d0 := _) rfl ?_ | refine w_cio (d0 := _) rfl ?_ | refine w_app (l0 := _) rfl ?_ | refine w_st (d0 := _) rfl ?_ | refine w_retv (d := _) rfl ?_
        | refine w_nm (Nat.le_of_ble_eq_true rfl) ?_
        | refine ex_some (o_add _ _) ?_ | refine ex_some (o_sub _ _) ?_ | refine ex_some rfl ?_ | refine ex_int ?_ | refine ex_lst ?_ | refine ex_sbv rfl rfl rfl ?_ | refine ex_st rfl rfl rfl ?_
        | (refine ⟨(Nat.le_of_ble_eq_true rfl : _ ≤ lim), ?_⟩)))
      refine ex_some (o_mod (by omega)) ?_
      exact ⟨rfl, rfl⟩
    · rw [iD_map]
      show wE C _ [some (.int p), some (.int c), some (iT row), some (.int by_), some (.int row.length), some (.int q), some (.int s), some (.int f), some (.lst false (D.fzA (iA w))), none] _
      rw [fzA_i]
      (repeat (first
        | refine w_bcons ?_ | refine w_asg ?_ | refine w_par ?_ | refine w_exp ?_ | refine w_ife ?_ | refine w_ret ?_ | refine w_bnil ?_ | refine w_brk ?_ | refine w_cnt ?_
        | refine w_con ?_ | refine w_bin ?_ | refine w_neg ?_ | refine w_not ?_ | refine w_and ?_ | refine w_or ?_ | refine w_ifx ?_ | refine w_cmp ?_ | refine w_chain ?_
        | refine w_anil ?_ | refine w_acons ?_ | refine w_tup ?_ | refine w_lst ?_ | refine w_sub ?_ | refine w_ono ?_ | refine w_oso ?_ | refine w_slice ?_ | refine w_blt ?_ | refine w_isi ?_
        | refine w_call ?_ | refine w_ckw ?_ | refine w_rvl ?_ | refine w_lrg ?_ | refine w_to ?_ | refine w_ft ?_ | refine w_it ?_ | refine w_rng ?_ | refine w_enu ?_ | refine w_comp ?_
        | refine w_tp ?_ | refine w_tnil ?_ | refine w_tcons ?_
        | refine w_var (d := _) rfl rfl ?_ | refine w_varO (d := _) rfl rfl ?_ | refine w_lnv (d := _) rfl rfl ?_ | refine w_sbv (d0 := _) rfl ?_ | refine w_cio (d0 := _) rfl ?_ | refine w_app (l0 := _) rfl ?_ | refine w_st (d0 := _) rfl ?_ | refine w_retv (d := _) rfl ?_
        | refine w_nm (Nat.le_of_ble_eq_true rfl) ?_
        | refine ex_some (o_add _ _) ?_ | refine ex_some (o_sub _ _) ?_ | refine ex_some rfl ?_ | refine ex_int ?_ | refine ex_lst ?_ | refine ex_sbv rfl rfl rfl ?_ | refine ex_st rfl rfl rfl ?_
        | (refine ⟨(Nat.le_of_ble_eq_true rfl : _ ≤ lim), ?_⟩)))
      rw [cut_to k0 k1, d2]
      refine ex_some (z := .lst true (iA ((w.drop ((row.length : Int) + -s).toNat).map (fun x => x * c % p) ++ w.take ((row.length : Int) + -s).toNat))) ?_ ?_
      · show addD (.lst false (D.fzA (iA _))) (.lst false (D.fzA (iA _))) = _
        rw [fzA_i, fzA_i]
        show (if (iA _).length + (iA _).length ≤ lim then some (D.lst true (iA _ ++ iA _)) else none) = _
        rw [if_pos]
        · rw [iA, iA, iA, List.map_append]
        · rw [List.length_map, List.length_map, List.length_map, List.length_drop, List.length_take]
          show _ ≤ 1000000
          omega
      · refine ex_some (z := iT ((w.drop ((row.length : Int) + -s).toNat).map (fun x => x * c % p) ++ w.take ((row.length : Int) + -s).toNat)) ?_ rfl
        show some (D.tup (D.fzA (iA _))) = _
        rw [fzA_i]
end R49

namespace R49
open PySem PySem.Spec Rr
def PwOk (C : Fn) (p c : Int) : Prop := C 15 [.int p, .int c] = some (.lst true (iA (pw p c)), [])
/-- what stands behind k turns of the law's own loop -/
def FL (p c : Int) (row : List Int) (by_ : Int) (k : Nat) : List Int := (List.range row.length).map fun (j : Nat) => if ((j : Int) - by_) % (row.length : Int) < (k : Int) then X p c row ((j : Int) - by_) else 0
theorem FL_len {p c : Int} {row : List Int} {by_ : Int} {k : Nat} : (FL p c row by_ k).length = row.length := by unfold FL; rw [List.length_map, List.length_range]
theorem FL_at {p c : Int} {row : List Int} {by_ : Int} {k j : Nat} (hj : j < (FL p c row by_ k).length) : (FL p c row by_ k)[j] = if ((j : Int) - by_) % (row.length : Int) < (k : Int) then X p c row ((j : Int) - by_) else 0 := by
  simp only [FL, List.getElem_map, List.getElem_range]
theorem FL_zero {p c : Int} {row : List Int} {by_ : Int} (hn : 0 < row.length) : FL p c row by_ 0 = List.replicate row.length 0 := by
  unfold FL
  refine List.ext_getElem (by rw [List.length_map, List.length_range, List.length_replicate]) fun j h1 h2 => ?_
  rw [List.getElem_map, List.getElem_replicate, if_neg]
  have := Int.emod_nonneg (((List.range row.length)[j]'(by simpa using h1) : Nat) - by_ : Int) (by omega : (row.length : Int) ≠ 0)
  omega
theorem FL_all {p c : Int} {row : List Int} {by_ : Int} (hn : 0 < row.length) : FL p c row by_ row.length = T p c row by_ := by
  unfold FL T
  refine List.map_congr_left fun j _ => ?_
  rw [if_pos (Int.emod_lt_of_pos _ (by omega))]
theorem FL_step {p c : Int} {row : List Int} {by_ : Int} {k : Nat} (hk : k < row.length) : FL p c row by_ (k + 1) = (FL p c row by_ k).set (((k : Int) + by_) % (row.length : Int)).toNat (X p c row ((((k : Int) + by_) % (row.length : Int)) - by_)) := by
  have hz : (0 : Int) < row.length := by omega
  have a0 := Int.emod_nonneg ((k : Int) + by_) (Int.ne_of_gt hz)
  have a1 := Int.emod_lt_of_pos ((k : Int) + by_) hz
  refine List.ext_getElem (by rw [List.length_set, FL_len, FL_len]) fun j h1 h2 => ?_
  rw [FL_len] at h1
  have key : ((j : Int) - by_) % (row.length : Int) = (k : Int) ↔ (j : Int) = ((k : Int) + by_) % (row.length : Int) := by
    have e1 := Int.mul_ediv_add_emod ((j : Int) - by_) (row.length : Int)
    have e2 := Int.mul_ediv_add_emod ((k : Int) + by_) (row.length : Int)
    constructor
    · intro z
      rw [z] at e1
      have : (k : Int) + by_ = (j : Int) + (row.length : Int) * (-(((j : Int) - by_) / (row.length : Int))) := by rw [Int.mul_neg]; omega
      rw [this, Int.add_mul_emod_self_left]
      exact (Int.emod_eq_of_lt (by omega) (by omega)).symm
    · intro z
      have : (j : Int) - by_ = (k : Int) + (row.length : Int) * (-(((k : Int) + by_) / (row.length : Int))) := by rw [Int.mul_neg]; omega
      rw [this, Int.add_mul_emod_self_left]
      exact Int.emod_eq_of_lt (by omega) (by omega)
  by_cases hj : j = (((k : Int) + by_) % (row.length : Int)).toNat
  · subst hj
    rw [List.getElem_set_self]
    have e : ((((k : Int) + by_) % (row.length : Int)).toNat : Int) = ((k : Int) + by_) % (row.length : Int) := Int.toNat_of_nonneg a0
    have kk := key.mpr e
    rw [FL_at, if_pos (by rw [kk]; omega), e]
  · rw [List.getElem_set_ne (fun z => hj z.symm)]
    have hne : ((j : Int) - by_) % (row.length : Int) ≠ (k : Int) := fun z => hj (by have := key.mp z; omega)
    rw [FL_at, FL_at]
    by_cases hlt : ((j : Int) - by_) % (row.length : Int) < (k : Int)
    · rw [if_pos hlt, if_pos (by omega)]
    · rw [if_neg hlt, if_neg (by omega)]
theorem pw_len (p c : Int) : (pw p c).length = ord p c := by unfold pw; rw [List.length_map, List.length_range]
theorem pw_at {p c : Int} (h : PC p c) (k : Int) (hk : (k % (ord p c : Int)).toNat < (pw p c).length) : (pw p c)[(k % (ord p c : Int)).toNat] = ex p c k := by
  simp only [pw, ex, List.getElem_map, List.getElem_range]
theorem set_iA (xs : List Int) (j : Nat) (x : Int) : (iA xs).set j (.int x) = iA (xs.set j x) := List.map_set.symm
theorem lturned (C : Fn) {p c : Int} {n : Nat} {row : List Int} (h : PC p c) (hC : PwOk C p c) (hr : Row p n row) (hn : 0 < row.length) (hn2 : row.length ≤ 16) (by_ : Int) : runF C m__law_turned [.int p, .int c, iT row, .int by_] = some (iT (T p c row by_), []) := by
  have p1 := h.p1
  have p13 := h.p13
  have o0 := h.o0
  have o12 := h.o12
  have hz : (0 : Int) < row.length := by omega
  have hm : (0 : Int) < (ord p c : Int) := by omega
  refine w_run rfl (by decide) rfl ?_
  show wB C _ [some (.int p), some (.int c), some (iT row), some (.int by_), none, none, none, none, none] _
  (repeat (first
    | refine w_bcons ?_ | refine w_asg ?_ | refine w_par ?_ | refine w_exp ?_ | refine w_ife ?_ | refine w_ret ?_ | refine w_bnil ?_ | refine w_brk ?_ | refine w_cnt ?_
    | refine w_con ?_ | refine w_bin ?_ | refine w_neg ?_ | refine w_not ?_ | refine w_and ?_ | refine w_or ?_ | refine w_ifx ?_ | refine w_cmp ?_ | refine w_chain ?_
    | refine w_anil ?_ | refine w_acons ?_ | refine w_tup ?_ | refine w_lst ?_ | refine w_sub ?_ | refine w_ono ?_ | refine w_oso ?_ | refine w_slice ?_ | refine w_blt ?_ | refine w_isi ?_
    | refine w_call ?_ | refine w_ckw ?_ | refine w_rvl ?_ | refine w_lrg ?_ | refine w_to ?_ | refine w_ft ?_ | refine w_it ?_ | refine w_rng ?_ | refine w_enu ?_ | refine w_comp ?_
    | refine w_tp ?_ | refine w_tnil ?_ | refine w_tcons ?_
    | refine w_var (d := _) rfl rfl ?_ | refine w_varO (d := _) rfl rfl ?_ | refine w_lnv (d := _) rfl rfl ?_ | refine w_sbv (d0 := _) rfl ?_ | refine w_cio (d0 := _) rfl ?_ | refine w_app (l0 := _) rfl ?_ | refine w_st (d0 := _) rfl ?_ | refine w_retv (d := _) rfl ?_
    | refine w_nm (Nat.le_of_ble_eq_true rfl) ?_
    | refine ex_some (o_add _ _) ?_ | refine ex_some (o_sub _ _) ?_ | refine ex_some rfl ?_ | refine ex_int ?_ | refine ex_lst ?_ | refine ex_sbv rfl rfl rfl ?_ | refine ex_st rfl rfl rfl ?_
    | (refine ⟨(Nat.le_of_ble_eq_true rfl : _ ≤ lim), ?_⟩)))
  refine ⟨_, hC, ?_⟩
  (repeat (first
    | refine w_bcons ?_ | refine w_asg ?_ | refine w_par ?_ | refine w_exp ?_ | refine w_ife ?_ | refine w_ret ?_ | refine w_bnil ?_ | refine w_brk ?_ | refine w_cnt ?_
    | refine w_con ?_ | refine w_bin ?_ | refine w_neg ?_ | refine w_not ?_ | refine w_and ?_ | refine w_or ?_ | refine w_ifx ?_ | refine w_cmp ?_ | refine w_chain ?_
    | refine w_anil ?_ | refine w_acons ?_ | refine w_tup ?_ | refine w_lst ?_ | refine w_sub ?_ | refine w_ono ?_ | refine w_oso ?_ | refine w_slice ?_ | refine w_blt ?_ | refine w_isi ?_
    | refine w_call ?_ | refine w_ckw ?_ | refine w_rvl ?_ | refine w_lrg ?_ | refine w_to ?_ | refine w_ft ?_ | refine w_it ?_ | refine w_rng ?_ | refine w_enu ?_ | refine w_comp ?_
    | refine w_tp ?_ | refine w_tnil ?_ | refine w_tcons ?_
    | refine w_var (d := _) rfl rfl ?_ | refine w_varO (d := _) rfl rfl ?_ | refine w_lnv (d := _) rfl rfl ?_ | refine w_sbv (d0 := _) rfl ?_ | refine w_cio (d0 := _) rfl ?_ | refine w_app (l0 := _) rfl ?_ | refine w_st (d0 := _) rfl ?_ | refine w_retv (d := _) rfl ?_
    | refine w_nm (Nat.le_of_ble_eq_true rfl) ?_
    | refine ex_some (o_add _ _) ?_ | refine ex_some (o_sub _ _) ?_ | refine ex_some rfl ?_ | refine ex_int ?_ | refine ex_lst ?_ | refine ex_sbv rfl rfl rfl ?_ | refine ex_st rfl rfl rfl ?_
    | (refine ⟨(Nat.le_of_ble_eq_true rfl : _ ≤ lim), ?_⟩)))
  simp only [List.length_map]
  refine ex_some (z := .lst true (iA (List.replicate row.length 0))) ?_ ?_
  · show (if 0 ≤ (row.length : Int) ∧ (row.length : Int) ≤ 1000 ∧ ([D.int 0] : List D).length ≤ 1000 then some (D.lst true (List.replicate ((row.length : Int)).toNat [D.int 0]).flatten) else none) = _
    rw [if_pos ⟨by omega, by omega, by decide⟩, Int.toNat_natCast, iA, List.map_replicate]
    congr 2
    generalize row.length = z
    induction z with
    | zero => rfl
    | succ z ih => rw [List.replicate_succ, List.flatten_cons, ih, List.replicate_succ]; rfl
  · rw [← FL_zero (p := p) (c := c) (by_ := by_) hn]
    (repeat (first
      | refine w_bcons ?_ | refine w_asg ?_ | refine w_par ?_ | refine w_exp ?_ | refine w_ife ?_ | refine w_ret ?_ | refine w_bnil ?_ | refine w_brk ?_ | refine w_cnt ?_
      | refine w_con ?_ | refine w_bin ?_ | refine w_neg ?_ | refine w_not ?_ | refine w_and ?_ | refine w_or ?_ | refine w_ifx ?_ | refine w_cmp ?_ | refine w_chain ?_
      | refine w_anil ?_ | refine w_acons ?_ | refine w_tup ?_ | refine w_lst ?_ | refine w_sub ?_ | refine w_ono ?_ | refine w_oso ?_ | refine w_slice ?_ | refine w_blt ?_ | refine w_isi ?_
      | refine w_call ?_ | refine w_ckw ?_ | refine w_rvl ?_ | refine w_lrg ?_ | refine w_to ?_ | refine w_ft ?_ | refine w_it ?_ | refine w_rng ?_ | refine w_enu ?_ | refine w_comp ?_
      | refine w_tp ?_ | refine w_tnil ?_ | refine w_tcons ?_
      | refine w_var (d := _) rfl rfl ?_ | refine w_varO (d := _) rfl rfl ?_ | refine w_lnv (d := _) rfl rfl ?_ | refine w_sbv (d0 := _) rfl ?_ | refine w_cio (d0 := _) rfl ?_ | refine w_app (l0 := _) rfl ?_ | refine w_st (d0 := _) rfl ?_ | refine w_retv (d := _) rfl ?_
      | refine w_nm (Nat.le_of_ble_eq_true rfl) ?_
      | refine ex_some (o_add _ _) ?_ | refine ex_some (o_sub _ _) ?_ | refine ex_some rfl ?_ | refine ex_int ?_ | refine ex_lst ?_ | refine ex_sbv rfl rfl rfl ?_ | refine ex_st rfl rfl rfl ?_
      | (refine ⟨(Nat.le_of_ble_eq_true rfl : _ ≤ lim), ?_⟩)))
    refine w_cut (fun ρ => ρ = [some (.int p), some (.int c), some (iT row), some (.int by_), some (.int row.length), some (.lst true (iA (pw p c))), some (.lst true (iA (FL p c row by_ row.length))), none, none]) ?_ fun ρ eρ => ?_
    · refine w_for ?_
      (repeat (first
        | refine w_bcons ?_ | refine w_asg ?_ | refine w_par ?_ | refine w_exp ?_ | refine w_ife ?_ | refine w_ret ?_ | refine w_bnil ?_ | refine w_brk ?_ | refine w_cnt ?_
        | refine w_con ?_ | refine w_bin ?_ | refine w_neg ?_ | refine w_not ?_ | refine w_and ?_ | refine w_or ?_ | refine w_ifx ?_ | refine w_cmp ?_ | refine w_chain ?_
        | refine w_anil ?_ | refine w_acons ?_ | refine w_tup ?_ | refine w_lst ?_ | refine w_sub ?_ | refine w_ono ?_ | refine w_oso ?_ | refine w_slice ?_ | refine w_blt ?_ | refine w_isi ?_
        | refine w_call ?_ | refine w_ckw ?_ | refine w_rvl ?_ | refine w_lrg ?_ | refine w_to ?_ | refine w_ft ?_ | refine w_it ?_ | refine w_rng ?_ | refine w_enu ?_ | refine w_comp ?_
        | refine w_tp ?_ | refine w_tnil ?_ | refine w_tcons ?_
        | refine w_var (d := _) rfl rfl ?_ | refine w_varO (d := _) rfl rfl ?_ | refine w_lnv (d := _) rfl rfl ?_ | refine w_sbv (d0 := _) rfl ?_ | refine w_cio (d0 := _) rfl ?_ | refine w_app (l0 := _) rfl ?_ | refine w_st (d0 := _) rfl ?_ | refine w_retv (d := _) rfl ?_
        | refine w_nm (Nat.le_of_ble_eq_true rfl) ?_
        | refine ex_some (o_add _ _) ?_ | refine ex_some (o_sub _ _) ?_ | refine ex_some rfl ?_ | refine ex_int ?_ | refine ex_lst ?_ | refine ex_sbv rfl rfl rfl ?_ | refine ex_st rfl rfl rfl ?_
        | (refine ⟨(Nat.le_of_ble_eq_true rfl : _ ≤ lim), ?_⟩)))
      refine ⟨sm62 (by omega), ?_⟩
      refine ⟨fun k ρ => ∃ y z, ρ = [some (.int p), some (.int c), some (iT row), some (.int by_), some (.int row.length), some (.lst true (iA (pw p c))), some (.lst true (iA (FL p c row by_ k))), y, z], ⟨none, none, rfl⟩, fun k d ρ hdk ⟨y, z, eρ⟩ => ?_, fun ρ ⟨y, z, eρ⟩ => ?_⟩
      · subst eρ
        obtain ⟨hk, rfl⟩ := intsD_get hdk
        have hk : k < row.length := by omega
        refine w_nm (Nat.le_of_ble_eq_true rfl) ?_
        rw [Int.zero_add]
        show wB C _ [some (.int p), some (.int c), some (iT row), some (.int by_), some (.int row.length), some (.lst true (iA (pw p c))), some (.lst true (iA (FL p c row by_ k))), some (.int k), none] _
        have k0 := Int.emod_nonneg (((k : Int) + by_) / (row.length : Int)) (Int.ne_of_gt hm)
        have k1 := Int.emod_lt_of_pos (((k : Int) + by_) / (row.length : Int)) hm
        have a0 := Int.emod_nonneg ((k : Int) + by_) (Int.ne_of_gt hz)
        have a1 := Int.emod_lt_of_pos ((k : Int) + by_) hz
        have hi1 : itemD (iT row) (.int (k : Int)) = some (.int row[k]) := item_i (xs := row) rfl (by omega) (by omega)
        have hpl : ((((k : Int) + by_) / (row.length : Int)) % (ord p c : Int)).toNat < (pw p c).length := by rw [pw_len]; omega
        have hi2 : itemD (.lst true (iA (pw p c))) (.int ((((k : Int) + by_) / (row.length : Int)) % (ord p c : Int))) = some (.int (ex p c (((k : Int) + by_) / (row.length : Int)))) := by
          rw [← pw_at h _ hpl]
          exact item_i (xs := pw p c) rfl k0 (by rw [pw_len]; exact k1)
        have e0 := ex_nonneg h (((k : Int) + by_) / (row.length : Int))
        have e1 := ex_lt h (((k : Int) + by_) / (row.length : Int))
        have r0 := hr.lo _ (List.getElem_mem hk)
        have hX : row[k] * ex p c (((k : Int) + by_) / (row.length : Int)) % p = X p c row ((((k : Int) + by_) % (row.length : Int)) - by_) := by
          have e := Int.mul_ediv_add_emod ((k : Int) + by_) (row.length : Int)
          have e2 : (((k : Int) + by_) % (row.length : Int)) - by_ = (k : Int) + (row.length : Int) * (-(((k : Int) + by_) / (row.length : Int))) := by rw [Int.mul_neg]; omega
          rw [e2, X_shift h hn, X_own h hr hk, Int.neg_neg, List.getD_eq_getElem?_getD, List.getElem?_eq_getElem hk]
          rfl
        have hix : L2.ixN (iA (FL p c row by_ k)).length (((k : Int) + by_) % (row.length : Int)) = some (((k : Int) + by_) % (row.length : Int)).toNat := by
          rw [List.length_map, FL_len]
          have := ixN_nat (n := row.length) (k := (((k : Int) + by_) % (row.length : Int)).toNat) (by omega)
          rw [Int.toNat_of_nonneg a0] at this
          exact this
        (repeat (first
          | refine w_bcons ?_ | refine w_asg ?_ | refine w_par ?_ | refine w_exp ?_ | refine w_ife ?_ | refine w_ret ?_ | refine w_bnil ?_ | refine w_brk ?_ | refine w_cnt ?_
          | refine w_con ?_ | refine w_bin ?_ | refine w_neg ?_ | refine w_not ?_ | refine w_and ?_ | refine w_or ?_ | refine w_ifx ?_ | refine w_cmp ?_ | refine w_chain ?_
          | refine w_anil ?_ | refine w_acons ?_ | refine w_tup ?_ | refine w_lst ?_ | refine w_sub ?_ | refine w_ono ?_ | refine w_oso ?_ | refine w_slice ?_ | refine w_blt ?_ | refine w_isi ?_
          | refine w_call ?_ | refine w_ckw ?_ | refine w_rvl ?_ | refine w_lrg ?_ | refine w_to ?_ | refine w_ft ?_ | refine w_it ?_ | refine w_rng ?_ | refine w_enu ?_ | refine w_comp ?_
          | refine w_tp ?_ | refine w_tnil ?_ | refine w_tcons ?_
          | refine w_var (d := _) rfl rfl ?_ | refine w_varO (d := _) rfl rfl ?_ | refine w_lnv (d := _) rfl rfl ?_ | refine w_sbv (d0 := _) rfl ?_ | refine w_cio (d0 := _) rfl ?_ | refine w_app (l0 := _) rfl ?_ | refine w_st (d0 := _) rfl ?_ | refine w_retv (d := _) rfl ?_
          | refine w_nm (Nat.le_of_ble_eq_true rfl) ?_
          | refine ex_some (o_add _ _) ?_ | refine ex_some (o_sub _ _) ?_ | refine ex_some rfl ?_ | refine ex_int ?_ | refine ex_lst ?_ | refine ex_sbv rfl rfl rfl ?_ | refine ex_st rfl rfl rfl ?_
          | (refine ⟨(Nat.le_of_ble_eq_true rfl : _ ≤ lim), ?_⟩)))
        refine ex_some (o_fdivS hz (by omega)) ?_
        (repeat (first
          | refine w_bcons ?_ | refine w_asg ?_ | refine w_par ?_ | refine w_exp ?_ | refine w_ife ?_ | refine w_ret ?_ | refine w_bnil ?_ | refine w_brk ?_ | refine w_cnt ?_
          | refine w_con ?_ | refine w_bin ?_ | refine w_neg ?_ | refine w_not ?_ | refine w_and ?_ | refine w_or ?_ | refine w_ifx ?_ | refine w_cmp ?_ | refine w_chain ?_
          | refine w_anil ?_ | refine w_acons ?_ | refine w_tup ?_ | refine w_lst ?_ | refine w_sub ?_ | refine w_ono ?_ | refine w_oso ?_ | refine w_slice ?_ | refine w_blt ?_ | refine w_isi ?_
          | refine w_call ?_ | refine w_ckw ?_ | refine w_rvl ?_ | refine w_lrg ?_ | refine w_to ?_ | refine w_ft ?_ | refine w_it ?_ | refine w_rng ?_ | refine w_enu ?_ | refine w_comp ?_
          | refine w_tp ?_ | refine w_tnil ?_ | refine w_tcons ?_
          | refine w_var (d := _) rfl rfl ?_ | refine w_varO (d := _) rfl rfl ?_ | refine w_lnv (d := _) rfl rfl ?_ | refine w_sbv (d0 := _) rfl ?_ | refine w_cio (d0 := _) rfl ?_ | refine w_app (l0 := _) rfl ?_ | refine w_st (d0 := _) rfl ?_ | refine w_retv (d := _) rfl ?_
          | refine w_nm (Nat.le_of_ble_eq_true rfl) ?_
          | refine ex_some (o_add _ _) ?_ | refine ex_some (o_sub _ _) ?_ | refine ex_some rfl ?_ | refine ex_int ?_ | refine ex_lst ?_ | refine ex_sbv rfl rfl rfl ?_ | refine ex_st rfl rfl rfl ?_
          | (refine ⟨(Nat.le_of_ble_eq_true rfl : _ ≤ lim), ?_⟩)))
        refine ⟨_, _, rfl, hi1, rfl, ?_⟩
        (repeat (first
          | refine w_bcons ?_ | refine w_asg ?_ | refine w_par ?_ | refine w_exp ?_ | refine w_ife ?_ | refine w_ret ?_ | refine w_bnil ?_ | refine w_brk ?_ | refine w_cnt ?_
          | refine w_con ?_ | refine w_bin ?_ | refine w_neg ?_ | refine w_not ?_ | refine w_and ?_ | refine w_or ?_ | refine w_ifx ?_ | refine w_cmp ?_ | refine w_chain ?_
          | refine w_anil ?_ | refine w_acons ?_ | refine w_tup ?_ | refine w_lst ?_ | refine w_sub ?_ | refine w_ono ?_ | refine w_oso ?_ | refine w_slice ?_ | refine w_blt ?_ | refine w_isi ?_
          | refine w_call ?_ | refine w_ckw ?_ | refine w_rvl ?_ | refine w_lrg ?_ | refine w_to ?_ | refine w_ft ?_ | refine w_it ?_ | refine w_rng ?_ | refine w_enu ?_ | refine w_comp ?_
          | refine w_tp ?_ | refine w_tnil ?_ | refine w_tcons ?_
          | refine w_var (d := _) rfl rfl ?_ | refine w_varO (d := _) rfl rfl ?_ | refine w_lnv (d := _) rfl rfl ?_ | refine w_sbv (d0 := _) rfl ?_ | refine w_cio (d0 := _) rfl ?_ | refine w_app (l0 := _) rfl ?_ | refine w_st (d0 := _) rfl ?_ | refine w_retv (d := _) rfl ?_
          | refine w_nm (Nat.le_of_ble_eq_true rfl) ?_
          | refine ex_some (o_add _ _) ?_ | refine ex_some (o_sub _ _) ?_ | refine ex_some rfl ?_ | refine ex_int ?_ | refine ex_lst ?_ | refine ex_sbv rfl rfl rfl ?_ | refine ex_st rfl rfl rfl ?_
          | (refine ⟨(Nat.le_of_ble_eq_true rfl : _ ≤ lim), ?_⟩)))
        simp only [List.length_map, pw_len]
        refine ex_some (o_mod hm) ?_
        refine ⟨_, _, rfl, hi2, rfl, ?_⟩
        generalize ex p c (((k : Int) + by_) / (row.length : Int)) = f at e0 e1 hX
        refine ex_some (o_mulS (by omega) (by omega) (by omega) (by omega)) ?_
        (repeat (first
          | refine w_bcons ?_ | refine w_asg ?_ | refine w_par ?_ | refine w_exp ?_ | refine w_ife ?_ | refine w_ret ?_ | refine w_bnil ?_ | refine w_brk ?_ | refine w_cnt ?_
          | refine w_con ?_ | refine w_bin ?_ | refine w_neg ?_ | refine w_not ?_ | refine w_and ?_ | refine w_or ?_ | refine w_ifx ?_ | refine w_cmp ?_ | refine w_chain ?_
          | refine w_anil ?_ | refine w_acons ?_ | refine w_tup ?_ | refine w_lst ?_ | refine w_sub ?_ | refine w_ono ?_ | refine w_oso ?_ | refine w_slice ?_ | refine w_blt ?_ | refine w_isi ?_
          | refine w_call ?_ | refine w_ckw ?_ | refine w_rvl ?_ | refine w_lrg ?_ | refine w_to ?_ | refine w_ft ?_ | refine w_it ?_ | refine w_rng ?_ | refine w_enu ?_ | refine w_comp ?_
          | refine w_tp ?_ | refine w_tnil ?_ | refine w_tcons ?_
          | refine w_var (d := _) rfl rfl ?_ | refine w_varO (d := _) rfl rfl ?_ | refine w_lnv (d := _) rfl rfl ?_ | refine w_sbv (d0 := _) rfl ?_ | refine w_cio (d0 := _) rfl ?_ | refine w_app (l0 := _) rfl ?_ | refine w_st (d0 := _) rfl ?_ | refine w_retv (d := _) rfl ?_
          | refine w_nm (Nat.le_of_ble_eq_true rfl) ?_
          | refine ex_some (o_add _ _) ?_ | refine ex_some (o_sub _ _) ?_ | refine ex_some rfl ?_ | refine ex_int ?_ | refine ex_lst ?_ | refine ex_sbv rfl rfl rfl ?_ | refine ex_st rfl rfl rfl ?_
          | (refine ⟨(Nat.le_of_ble_eq_true rfl : _ ≤ lim), ?_⟩)))
        refine ex_some (o_mod (by omega)) ?_
        (repeat (first
          | refine w_bcons ?_ | refine w_asg ?_ | refine w_par ?_ | refine w_exp ?_ | refine w_ife ?_ | refine w_ret ?_ | refine w_bnil ?_ | refine w_brk ?_ | refine w_cnt ?_
          | refine w_con ?_ | refine w_bin ?_ | refine w_neg ?_ | refine w_not ?_ | refine w_and ?_ | refine w_or ?_ | refine w_ifx ?_ | refine w_cmp ?_ | refine w_chain ?_
          | refine w_anil ?_ | refine w_acons ?_ | refine w_tup ?_ | refine w_lst ?_ | refine w_sub ?_ | refine w_ono ?_ | refine w_oso ?_ | refine w_slice ?_ | refine w_blt ?_ | refine w_isi ?_
          | refine w_call ?_ | refine w_ckw ?_ | refine w_rvl ?_ | refine w_lrg ?_ | refine w_to ?_ | refine w_ft ?_ | refine w_it ?_ | refine w_rng ?_ | refine w_enu ?_ | refine w_comp ?_
          | refine w_tp ?_ | refine w_tnil ?_ | refine w_tcons ?_
          | refine w_var (d := _) rfl rfl ?_ | refine w_varO (d := _) rfl rfl ?_ | refine w_lnv (d := _) rfl rfl ?_ | refine w_sbv (d0 := _) rfl ?_ | refine w_cio (d0 := _) rfl ?_ | refine w_app (l0 := _) rfl ?_ | refine w_st (d0 := _) rfl ?_ | refine w_retv (d := _) rfl ?_
          | refine w_nm (Nat.le_of_ble_eq_true rfl) ?_
          | refine ex_some (o_add _ _) ?_ | refine ex_some (o_sub _ _) ?_ | refine ex_some rfl ?_ | refine ex_int ?_ | refine ex_lst ?_ | refine ex_sbv rfl rfl rfl ?_ | refine ex_st rfl rfl rfl ?_
          | (refine ⟨(Nat.le_of_ble_eq_true rfl : _ ≤ lim), ?_⟩)))
        refine ex_some (o_mod hz) ?_
        refine ⟨_, _, _, rfl, rfl, hix, ?_⟩
        refine w_bnil ⟨some (.int k), some (.int (((k : Int) + by_) / (row.length : Int))), ?_⟩
        rw [FL_step hk, ← hX, ← set_iA]
        rfl
      · subst eρ
        refine ⟨rfl, ?_⟩
        rw [intsD_len']
        show [_, _, _, _, _, _, some (D.lst true (iA (FL p c row by_ ((row.length : Int) - 0).toNat))), none, none] = _
        rw [Int.sub_zero, Int.toNat_natCast]
    · subst eρ
      rw [FL_all hn]
      (repeat (first
        | refine w_bcons ?_ | refine w_asg ?_ | refine w_par ?_ | refine w_exp ?_ | refine w_ife ?_ | refine w_ret ?_ | refine w_bnil ?_ | refine w_brk ?_ | refine w_cnt ?_
        | refine w_con ?_ | refine w_bin ?_ | refine w_neg ?_ | refine w_not ?_ | refine w_and ?_ | refine w_or ?_ | refine w_ifx ?_ | refine w_cmp ?_ | refine w_chain ?_
        | refine w_anil ?_ | refine w_acons ?_ | refine w_tup ?_ | refine w_lst ?_ | refine w_sub ?_ | refine w_ono ?_ | refine w_oso ?_ | refine w_slice ?_ | refine w_blt ?_ | refine w_isi ?_
        | refine w_call ?_ | refine w_ckw ?_ | refine w_rvl ?_ | refine w_lrg ?_ | refine w_to ?_ | refine w_ft ?_ | refine w_it ?_ | refine w_rng ?_ | refine w_enu ?_ | refine w_comp ?_
        | refine w_tp ?_ | refine w_tnil ?_ | refine w_tcons ?_
        | refine w_var (d := _) rfl rfl ?_ | refine w_varO (d := _) rfl rfl ?_ | refine w_lnv (d := _) rfl rfl ?_ | refine w_sbv (d0 := _) rfl ?_ | refine w_cio (d0 := _) rfl ?_ | refine w_app (l0 := _) rfl ?_ | refine w_st (d0 := _) rfl ?_ | refine w_retv (d := _) rfl ?_
        | refine w_nm (Nat.le_of_ble_eq_true rfl) ?_
        | refine ex_some (o_add _ _) ?_ | refine ex_some (o_sub _ _) ?_ | refine ex_some rfl ?_ | refine ex_int ?_ | refine ex_lst ?_ | refine ex_sbv rfl rfl rfl ?_ | refine ex_st rfl rfl rfl ?_
        | (refine ⟨(Nat.le_of_ble_eq_true rfl : _ ≤ lim), ?_⟩)))
      show D.tup (D.fzA (iA _)) = _
      rw [fzA_i]
end R49

namespace R49
open PySem PySem.Spec Rr
/-! ### 1, .., N, and what of them -/
def up (N : Nat) : List Int := (List.range N).map fun (k : Nat) => 1 + (k : Int)
theorem up_D (N : Nat) : intsD 1 N = iA (up N) := by
  unfold intsD up
  rw [iA, List.map_map]
  rfl
theorem up_len (N : Nat) : (up N).length = N := by unfold up; rw [List.length_map, List.length_range]
theorem up_mem {N : Nat} {d : Int} : d ∈ up N ↔ 1 ≤ d ∧ d ≤ N := by
  unfold up
  rw [List.mem_map]
  constructor
  · rintro ⟨k, hk, rfl⟩
    have := List.mem_range.mp hk
    omega
  · intro h
    exact ⟨(d - 1).toNat, List.mem_range.mpr (by omega), by omega⟩
theorem up_sorted (N : Nat) : (up N).Pairwise (· < ·) := by
  unfold up
  rw [List.pairwise_map]
  exact List.pairwise_lt_range.imp fun {a b} h => by omega
theorem head_of {xs : List Int} (hs : xs.Pairwise (· < ·)) {g : Int} (hg : g ∈ xs) (hm : ∀ d ∈ xs, g ≤ d) : ∃ r, xs = g :: r := by
  cases xs with
  | nil => cases hg
  | cons x r =>
    have h1 := hm x List.mem_cons_self
    rcases List.mem_cons.mp hg with e | h2
    · exact ⟨r, by rw [e]⟩
    · have := (List.pairwise_cons.mp hs).1 g h2
      omega
theorem take_of {xs : List Int} (hs : xs.Pairwise (· < ·)) {g d : Int} {k : Nat} (hg : g ∈ xs) (hk : xs[k]? = some d) (h : g < d) : g ∈ xs.take k := by
  obtain ⟨j, hj, rfl⟩ := List.getElem_of_mem hg
  obtain ⟨hkl, rfl⟩ := List.getElem?_eq_some_iff.mp hk
  have : j < k := by
    rcases Nat.lt_trichotomy j k with z | z | z
    · exact z
    · subst z; omega
    · have := List.pairwise_iff_getElem.mp hs k j hkl hj z
      omega
  rw [List.mem_iff_getElem]
  exact ⟨j, by rw [List.length_take]; omega, by rw [List.getElem_take]⟩
def dvs (N : Nat) : List Int := (up N).filter fun d => decide ((N : Int) % d = 0)
def isP (f : Int → Bool) : D → Bool
  | .int i => f i
  | _ => false
theorem isP_filter (f : Int → Bool) (xs : List Int) : ((iA xs).filter (isP f)).map (iD id) = iA (xs.filter f) := by
  induction xs with
  | nil => rfl
  | cons x xs ih =>
    rw [iA, List.map_cons]
    cases hf : f x with
    | true =>
      rw [List.filter_cons_of_pos (show isP f (.int x) = true from hf), List.filter_cons_of_pos hf, List.map_cons, ih]
      rfl
    | false =>
      rw [List.filter_cons_of_neg (by show ¬ isP f (.int x) = true; rw [show isP f (.int x) = f x from rfl, hf]; decide), List.filter_cons_of_neg (by rw [hf]; decide)]
      exact ih
theorem divisors (C : Fn) {N : Nat} (h1 : 0 < N) (h2 : N ≤ 1000) : runF C m__law_divisors [.int N] = some (.lst true (iA (dvs N)), []) := by
  refine w_run rfl (by decide) rfl ?_
  show wB C _ [some (.int N), none] _
  (repeat (first
    | refine w_bcons ?_ | refine w_asg ?_ | refine w_par ?_ | refine w_exp ?_ | refine w_ife ?_ | refine w_ret ?_ | refine w_bnil ?_ | refine w_brk ?_ | refine w_cnt ?_
    | refine w_con ?_ | refine w_bin ?_ | refine w_neg ?_ | refine w_not ?_ | refine w_and ?_ | refine w_or ?_ | refine w_ifx ?_ | refine w_cmp ?_ | refine w_chain ?_
    | refine w_anil ?_ | refine w_acons ?_ | refine w_tup ?_ | refine w_lst ?_ | refine w_sub ?_ | refine w_ono ?_ | refine w_oso ?_ | refine w_slice ?_ | refine w_blt ?_ | refine w_isi ?_
    | refine w_call ?_ | refine w_ckw ?_ | refine w_rvl ?_ | refine w_lrg ?_ | refine w_to ?_ | refine w_ft ?_ | refine w_it ?_ | refine w_rng ?_ | refine w_enu ?_ | refine w_comp ?_
    | refine w_tp ?_ | refine w_tnil ?_ | refine w_tcons ?_
    | refine w_var (d := _) rfl rfl ?_ | refine w_varO (d := _) rfl rfl ?_ | refine w_lnv (d := _) rfl rfl ?_ | refine w_sbv (d0 := _) rfl ?_ | refine w_cio (d0 := _) rfl ?_ | refine w_app (l0 := _) rfl ?_ | refine w_st (d0 := _) rfl ?_ | refine w_retv (d := _) rfl ?_
    | refine w_nm (Nat.le_of_ble_eq_true rfl) ?_
    | refine ex_some (o_add _ _) ?_ | refine ex_some (o_sub _ _) ?_ | refine ex_some rfl ?_ | refine ex_int ?_ | refine ex_lst ?_ | refine ex_sbv rfl rfl rfl ?_ | refine ex_st rfl rfl rfl ?_
    | (refine ⟨(Nat.le_of_ble_eq_true rfl : _ ≤ lim), ?_⟩)))
  refine ⟨_, _, rfl, rfl, by decide, sm62 (by omega), ?_⟩
  have e : (((N : Int) + 1) - 1).toNat = N := by omega
  rw [e]
  refine ⟨by show _ ≤ 1000000; omega, ?_⟩
  rw [up_D]
  refine ex_some (z := iA (up N)) (by show some (D.fzA (iA _)) = _; rw [fzA_i]) ?_
  refine ⟨by rw [List.length_map, up_len]; show _ ≤ 1000000; omega, wC_filter (isP fun d => decide ((N : Int) % d = 0)) (iD id) (fun d hd => ?_) ?_⟩
  · obtain ⟨x, hx, rfl⟩ := List.mem_map.mp hd
    have hx2 := up_mem.mp hx
    refine w_nm (Nat.le_of_ble_eq_true rfl) ?_
    show wE C _ [some (.int N), some (.int x)] _
    (repeat (first
      | refine w_bcons ?_ | refine w_asg ?_ | refine w_par ?_ | refine w_exp ?_ | refine w_ife ?_ | refine w_ret ?_ | refine w_bnil ?_ | refine w_brk ?_ | refine w_cnt ?_
      | refine w_con ?_ | refine w_bin ?_ | refine w_neg ?_ | refine w_not ?_ | refine w_and ?_ | refine w_or ?_ | refine w_ifx ?_ | refine w_cmp ?_ | refine w_chain ?_
      | refine w_anil ?_ | refine w_acons ?_ | refine w_tup ?_ | refine w_lst ?_ | refine w_sub ?_ | refine w_ono ?_ | refine w_oso ?_ | refine w_slice ?_ | refine w_blt ?_ | refine w_isi ?_
      | refine w_call ?_ | refine w_ckw ?_ | refine w_rvl ?_ | refine w_lrg ?_ | refine w_to ?_ | refine w_ft ?_ | refine w_it ?_ | refine w_rng ?_ | refine w_enu ?_ | refine w_comp ?_
      | refine w_tp ?_ | refine w_tnil ?_ | refine w_tcons ?_
      | refine w_var (d := _) rfl rfl ?_ | refine w_varO (d := _) rfl rfl ?_ | refine w_lnv (d := _) rfl rfl ?_ | refine w_sbv (d0 := _) rfl ?_ | refine w_cio (d0 := _) rfl ?_ | refine w_app (l0 := _) rfl ?_ | refine w_st (d0 := _) rfl ?_ | refine w_retv (d := _) rfl ?_
      | refine w_nm (Nat.le_of_ble_eq_true rfl) ?_
      | refine ex_some (o_add _ _) ?_ | refine ex_some (o_sub _ _) ?_ | refine ex_some rfl ?_ | refine ex_int ?_ | refine ex_lst ?_ | refine ex_sbv rfl rfl rfl ?_ | refine ex_st rfl rfl rfl ?_
      | (refine ⟨(Nat.le_of_ble_eq_true rfl : _ ≤ lim), ?_⟩)))
    refine ex_some (o_mod (by omega)) ?_
    (repeat (first
      | refine w_bcons ?_ | refine w_asg ?_ | refine w_par ?_ | refine w_exp ?_ | refine w_ife ?_ | refine w_ret ?_ | refine w_bnil ?_ | refine w_brk ?_ | refine w_cnt ?_
      | refine w_con ?_ | refine w_bin ?_ | refine w_neg ?_ | refine w_not ?_ | refine w_and ?_ | refine w_or ?_ | refine w_ifx ?_ | refine w_cmp ?_ | refine w_chain ?_
      | refine w_anil ?_ | refine w_acons ?_ | refine w_tup ?_ | refine w_lst ?_ | refine w_sub ?_ | refine w_ono ?_ | refine w_oso ?_ | refine w_slice ?_ | refine w_blt ?_ | refine w_isi ?_
      | refine w_call ?_ | refine w_ckw ?_ | refine w_rvl ?_ | refine w_lrg ?_ | refine w_to ?_ | refine w_ft ?_ | refine w_it ?_ | refine w_rng ?_ | refine w_enu ?_ | refine w_comp ?_
      | refine w_tp ?_ | refine w_tnil ?_ | refine w_tcons ?_
      | refine w_var (d := _) rfl rfl ?_ | refine w_varO (d := _) rfl rfl ?_ | refine w_lnv (d := _) rfl rfl ?_ | refine w_sbv (d0 := _) rfl ?_ | refine w_cio (d0 := _) rfl ?_ | refine w_app (l0 := _) rfl ?_ | refine w_st (d0 := _) rfl ?_ | refine w_retv (d := _) rfl ?_
      | refine w_nm (Nat.le_of_ble_eq_true rfl) ?_
      | refine ex_some (o_add _ _) ?_ | refine ex_some (o_sub _ _) ?_ | refine ex_some rfl ?_ | refine ex_int ?_ | refine ex_lst ?_ | refine ex_sbv rfl rfl rfl ?_ | refine ex_st rfl rfl rfl ?_
      | (refine ⟨(Nat.le_of_ble_eq_true rfl : _ ≤ lim), ?_⟩)))
    refine ⟨rfl, fun _ => rfl, fun _ => ?_⟩
    (repeat (first
      | refine w_bcons ?_ | refine w_asg ?_ | refine w_par ?_ | refine w_exp ?_ | refine w_ife ?_ | refine w_ret ?_ | refine w_bnil ?_ | refine w_brk ?_ | refine w_cnt ?_
      | refine w_con ?_ | refine w_bin ?_ | refine w_neg ?_ | refine w_not ?_ | refine w_and ?_ | refine w_or ?_ | refine w_ifx ?_ | refine w_cmp ?_ | refine w_chain ?_
      | refine w_anil ?_ | refine w_acons ?_ | refine w_tup ?_ | refine w_lst ?_ | refine w_sub ?_ | refine w_ono ?_ | refine w_oso ?_ | refine w_slice ?_ | refine w_blt ?_ | refine w_isi ?_
      | refine w_call ?_ | refine w_ckw ?_ | refine w_rvl ?_ | refine w_lrg ?_ | refine w_to ?_ | refine w_ft ?_ | refine w_it ?_ | refine w_rng ?_ | refine w_enu ?_ | refine w_comp ?_
      | refine w_tp ?_ | refine w_tnil ?_ | refine w_tcons ?_
      | refine w_var (d := _) rfl rfl ?_ | refine w_varO (d := _) rfl rfl ?_ | refine w_lnv (d := _) rfl rfl ?_ | refine w_sbv (d0 := _) rfl ?_ | refine w_cio (d0 := _) rfl ?_ | refine w_app (l0 := _) rfl ?_ | refine w_st (d0 := _) rfl ?_ | refine w_retv (d := _) rfl ?_
      | refine w_nm (Nat.le_of_ble_eq_true rfl) ?_
      | refine ex_some (o_add _ _) ?_ | refine ex_some (o_sub _ _) ?_ | refine ex_some rfl ?_ | refine ex_int ?_ | refine ex_lst ?_ | refine ex_sbv rfl rfl rfl ?_ | refine ex_st rfl rfl rfl ?_
      | (refine ⟨(Nat.le_of_ble_eq_true rfl : _ ≤ lim), ?_⟩)))
    exact ⟨rfl, rfl⟩
  · show D.lst true (((iA (up N)).filter _).map _) = _
    rw [isP_filter]
    rfl
theorem dvs_mem {N : Nat} {d : Int} : d ∈ dvs N ↔ 1 ≤ d ∧ d ≤ N ∧ (N : Int) % d = 0 := by
  unfold dvs
  rw [List.mem_filter, up_mem, decide_eq_true_eq, and_assoc]
theorem dvs_sorted (N : Nat) : (dvs N).Pairwise (· < ·) := (up_sorted N).filter _
theorem dvs_len (N : Nat) : (dvs N).length ≤ N := by
  have := List.length_filter_le (fun d => decide ((N : Int) % d = 0)) (up N)
  rw [up_len] at this
  exact this
def LtOk (C : Fn) (p c : Int) (row : List Int) : Prop := ∀ by_ : Int, C 16 [.int p, .int c, iT row, .int by_] = some (iT (T p c row by_), [])
def BtOk (C : Fn) (p c : Int) (row : List Int) : Prop := ∀ by_ : Int, C 2 [.int p, .int c, iT row, .int by_] = some (iT (T p c row by_), [])
def DvOk (C : Fn) : Prop := ∀ N : Nat, 0 < N → N ≤ 1000 → C 17 [.int N] = some (.lst true (iA (dvs N)), [])
section
variable {p c : Int} {n : Nat} {row : List Int} {g : Nat}
theorem Per.le (pr : Per p c row g) (h : PC p c) (hn : 0 < row.length) : (g : Int) ≤ ((row.length * ord p c : Nat) : Int) ∧ (((row.length * ord p c : Nat) : Int)) % (g : Int) = 0 := by
  have hw : 0 < row.length * ord p c := Nat.mul_pos hn h.o0
  have := pr.dvd
  refine ⟨?_, by exact_mod_cast this⟩
  have := Nat.le_of_dvd hw (Nat.dvd_of_mod_eq_zero pr.dvd)
  exact_mod_cast this
theorem lperiod (C : Fn) (h : PC p c) (hP : PwOk C p c) (hD : DvOk C) (hT : LtOk C p c row) (hn : 0 < row.length) (hn2 : row.length ≤ 16) (pr : Per p c row g) : runF C m__law_period [.int p, .int c, iT row] = some (.int g, []) := by
  have o0 := h.o0
  have o12 := h.o12
  obtain ⟨gl, gd⟩ := pr.le h hn
  have g0 := pr.pos
  have hw : 0 < row.length * ord p c := Nat.mul_pos hn h.o0
  have hw2 : row.length * ord p c ≤ 16 * 12 := Nat.mul_le_mul hn2 o12
  refine w_run rfl (by decide) rfl ?_
  show wB C _ [some (.int p), some (.int c), some (iT row), none, none] _
  (repeat (first
    | refine w_bcons ?_ | refine w_asg ?_ | refine w_par ?_ | refine w_exp ?_ | refine w_ife ?_ | refine w_ret ?_ | refine w_bnil ?_ | refine w_brk ?_ | refine w_cnt ?_
    | refine w_con ?_ | refine w_bin ?_ | refine w_neg ?_ | refine w_not ?_ | refine w_and ?_ | refine w_or ?_ | refine w_ifx ?_ | refine w_cmp ?_ | refine w_chain ?_
    | refine w_anil ?_ | refine w_acons ?_ | refine w_tup ?_ | refine w_lst ?_ | refine w_sub ?_ | refine w_ono ?_ | refine w_oso ?_ | refine w_slice ?_ | refine w_blt ?_ | refine w_isi ?_
    | refine w_call ?_ | refine w_ckw ?_ | refine w_rvl ?_ | refine w_lrg ?_ | refine w_to ?_ | refine w_ft ?_ | refine w_it ?_ | refine w_rng ?_ | refine w_enu ?_ | refine w_comp ?_
    | refine w_tp ?_ | refine w_tnil ?_ | refine w_tcons ?_
    | refine w_var (d := _) rfl rfl ?_ | refine w_varO (d := _) rfl rfl ?_ | refine w_lnv (d := _) rfl rfl ?_ | refine w_sbv (d0 := _) rfl ?_ | refine w_cio (d0 := _) rfl ?_ | refine w_app (l0 := _) rfl ?_ | refine w_st (d0 := _) rfl ?_ | refine w_retv (d := _) rfl ?_
    | refine w_nm (Nat.le_of_ble_eq_true rfl) ?_
    | refine ex_some (o_add _ _) ?_ | refine ex_some (o_sub _ _) ?_ | refine ex_some rfl ?_ | refine ex_int ?_ | refine ex_lst ?_ | refine ex_sbv rfl rfl rfl ?_ | refine ex_st rfl rfl rfl ?_
    | (refine ⟨(Nat.le_of_ble_eq_true rfl : _ ≤ lim), ?_⟩)))
  refine ⟨_, hP, ?_⟩
  refine ex_some (z := .int (ord p c)) (by show some (D.int ((D.fzA (iA (pw p c))).length : Nat)) = _; rw [fzA_i, List.length_map, pw_len]) ?_
  simp only [List.length_map]
  refine ex_some (o_mulS (by omega) (by omega) (by omega) (by omega)) ?_
  (repeat (first
    | refine w_bcons ?_ | refine w_asg ?_ | refine w_par ?_ | refine w_exp ?_ | refine w_ife ?_ | refine w_ret ?_ | refine w_bnil ?_ | refine w_brk ?_ | refine w_cnt ?_
    | refine w_con ?_ | refine w_bin ?_ | refine w_neg ?_ | refine w_not ?_ | refine w_and ?_ | refine w_or ?_ | refine w_ifx ?_ | refine w_cmp ?_ | refine w_chain ?_
    | refine w_anil ?_ | refine w_acons ?_ | refine w_tup ?_ | refine w_lst ?_ | refine w_sub ?_ | refine w_ono ?_ | refine w_oso ?_ | refine w_slice ?_ | refine w_blt ?_ | refine w_isi ?_
    | refine w_call ?_ | refine w_ckw ?_ | refine w_rvl ?_ | refine w_lrg ?_ | refine w_to ?_ | refine w_ft ?_ | refine w_it ?_ | refine w_rng ?_ | refine w_enu ?_ | refine w_comp ?_
    | refine w_tp ?_ | refine w_tnil ?_ | refine w_tcons ?_
    | refine w_var (d := _) rfl rfl ?_ | refine w_varO (d := _) rfl rfl ?_ | refine w_lnv (d := _) rfl rfl ?_ | refine w_sbv (d0 := _) rfl ?_ | refine w_cio (d0 := _) rfl ?_ | refine w_app (l0 := _) rfl ?_ | refine w_st (d0 := _) rfl ?_ | refine w_retv (d := _) rfl ?_
    | refine w_nm (Nat.le_of_ble_eq_true rfl) ?_
    | refine ex_some (o_add _ _) ?_ | refine ex_some (o_sub _ _) ?_ | refine ex_some rfl ?_ | refine ex_int ?_ | refine ex_lst ?_ | refine ex_sbv rfl rfl rfl ?_ | refine ex_st rfl rfl rfl ?_
    | (refine ⟨(Nat.le_of_ble_eq_true rfl : _ ≤ lim), ?_⟩)))
  rw [← Int.natCast_mul]
  have hg : (g : Int) ∈ dvs (row.length * ord p c) := dvs_mem.mpr ⟨by omega, gl, gd⟩
  refine w_for ?_
  (repeat (first
    | refine w_bcons ?_ | refine w_asg ?_ | refine w_par ?_ | refine w_exp ?_ | refine w_ife ?_ | refine w_ret ?_ | refine w_bnil ?_ | refine w_brk ?_ | refine w_cnt ?_
    | refine w_con ?_ | refine w_bin ?_ | refine w_neg ?_ | refine w_not ?_ | refine w_and ?_ | refine w_or ?_ | refine w_ifx ?_ | refine w_cmp ?_ | refine w_chain ?_
    | refine w_anil ?_ | refine w_acons ?_ | refine w_tup ?_ | refine w_lst ?_ | refine w_sub ?_ | refine w_ono ?_ | refine w_oso ?_ | refine w_slice ?_ | refine w_blt ?_ | refine w_isi ?_
    | refine w_call ?_ | refine w_ckw ?_ | refine w_rvl ?_ | refine w_lrg ?_ | refine w_to ?_ | refine w_ft ?_ | refine w_it ?_ | refine w_rng ?_ | refine w_enu ?_ | refine w_comp ?_
    | refine w_tp ?_ | refine w_tnil ?_ | refine w_tcons ?_
    | refine w_var (d := _) rfl rfl ?_ | refine w_varO (d := _) rfl rfl ?_ | refine w_lnv (d := _) rfl rfl ?_ | refine w_sbv (d0 := _) rfl ?_ | refine w_cio (d0 := _) rfl ?_ | refine w_app (l0 := _) rfl ?_ | refine w_st (d0 := _) rfl ?_ | refine w_retv (d := _) rfl ?_
    | refine w_nm (Nat.le_of_ble_eq_true rfl) ?_
    | refine ex_some (o_add _ _) ?_ | refine ex_some (o_sub _ _) ?_ | refine ex_some rfl ?_ | refine ex_int ?_ | refine ex_lst ?_ | refine ex_sbv rfl rfl rfl ?_ | refine ex_st rfl rfl rfl ?_
    | (refine ⟨(Nat.le_of_ble_eq_true rfl : _ ≤ lim), ?_⟩)))
  refine ⟨_, hD _ hw (by omega), ?_⟩
  refine ex_some (z := iA (dvs (row.length * ord p c))) (by show some (D.fzA (iA _)) = _; rw [fzA_i]) ?_
  refine ⟨fun k ρ => (∃ y, ρ = [some (.int p), some (.int c), some (iT row), some (.int ((row.length * ord p c : Nat) : Int)), y]) ∧ ∀ d ∈ (dvs (row.length * ord p c)).take k, d % (g : Int) ≠ 0, ⟨⟨none, rfl⟩, fun d hd => (by simp at hd)⟩, fun k d ρ hdk ⟨⟨y, eρ⟩, hI⟩ => ?_, fun ρ ⟨_, hI⟩ => ?_⟩
  · subst eρ
    obtain ⟨d, hd, rfl⟩ := iA_get hdk
    have hdm := dvs_mem.mp (List.mem_of_getElem? hd)
    refine w_nm (Nat.le_of_ble_eq_true rfl) ?_
    show wB C _ [some (.int p), some (.int c), some (iT row), some (.int ((row.length * ord p c : Nat) : Int)), some (.int d)] _
    (repeat (first
      | refine w_bcons ?_ | refine w_asg ?_ | refine w_par ?_ | refine w_exp ?_ | refine w_ife ?_ | refine w_ret ?_ | refine w_bnil ?_ | refine w_brk ?_ | refine w_cnt ?_
      | refine w_con ?_ | refine w_bin ?_ | refine w_neg ?_ | refine w_not ?_ | refine w_and ?_ | refine w_or ?_ | refine w_ifx ?_ | refine w_cmp ?_ | refine w_chain ?_
      | refine w_anil ?_ | refine w_acons ?_ | refine w_tup ?_ | refine w_lst ?_ | refine w_sub ?_ | refine w_ono ?_ | refine w_oso ?_ | refine w_slice ?_ | refine w_blt ?_ | refine w_isi ?_
      | refine w_call ?_ | refine w_ckw ?_ | refine w_rvl ?_ | refine w_lrg ?_ | refine w_to ?_ | refine w_ft ?_ | refine w_it ?_ | refine w_rng ?_ | refine w_enu ?_ | refine w_comp ?_
      | refine w_tp ?_ | refine w_tnil ?_ | refine w_tcons ?_
      | refine w_var (d := _) rfl rfl ?_ | refine w_varO (d := _) rfl rfl ?_ | refine w_lnv (d := _) rfl rfl ?_ | refine w_sbv (d0 := _) rfl ?_ | refine w_cio (d0 := _) rfl ?_ | refine w_app (l0 := _) rfl ?_ | refine w_st (d0 := _) rfl ?_ | refine w_retv (d := _) rfl ?_
      | refine w_nm (Nat.le_of_ble_eq_true rfl) ?_
      | refine ex_some (o_add _ _) ?_ | refine ex_some (o_sub _ _) ?_ | refine ex_some rfl ?_ | refine ex_int ?_ | refine ex_lst ?_ | refine ex_sbv rfl rfl rfl ?_ | refine ex_st rfl rfl rfl ?_
      | (refine ⟨(Nat.le_of_ble_eq_true rfl : _ ≤ lim), ?_⟩)))
    refine ⟨_, hT d, ?_⟩
    (repeat (first
      | refine w_bcons ?_ | refine w_asg ?_ | refine w_par ?_ | refine w_exp ?_ | refine w_ife ?_ | refine w_ret ?_ | refine w_bnil ?_ | refine w_brk ?_ | refine w_cnt ?_
      | refine w_con ?_ | refine w_bin ?_ | refine w_neg ?_ | refine w_not ?_ | refine w_and ?_ | refine w_or ?_ | refine w_ifx ?_ | refine w_cmp ?_ | refine w_chain ?_
      | refine w_anil ?_ | refine w_acons ?_ | refine w_tup ?_ | refine w_lst ?_ | refine w_sub ?_ | refine w_ono ?_ | refine w_oso ?_ | refine w_slice ?_ | refine w_blt ?_ | refine w_isi ?_
      | refine w_call ?_ | refine w_ckw ?_ | refine w_rvl ?_ | refine w_lrg ?_ | refine w_to ?_ | refine w_ft ?_ | refine w_it ?_ | refine w_rng ?_ | refine w_enu ?_ | refine w_comp ?_
      | refine w_tp ?_ | refine w_tnil ?_ | refine w_tcons ?_
      | refine w_var (d := _) rfl rfl ?_ | refine w_varO (d := _) rfl rfl ?_ | refine w_lnv (d := _) rfl rfl ?_ | refine w_sbv (d0 := _) rfl ?_ | refine w_cio (d0 := _) rfl ?_ | refine w_app (l0 := _) rfl ?_ | refine w_st (d0 := _) rfl ?_ | refine w_retv (d := _) rfl ?_
      | refine w_nm (Nat.le_of_ble_eq_true rfl) ?_
      | refine ex_some (o_add _ _) ?_ | refine ex_some (o_sub _ _) ?_ | refine ex_some rfl ?_ | refine ex_int ?_ | refine ex_lst ?_ | refine ex_sbv rfl rfl rfl ?_ | refine ex_st rfl rfl rfl ?_
      | (refine ⟨(Nat.le_of_ble_eq_true rfl : _ ≤ lim), ?_⟩)))
    refine ex_some (z := decide (T p c row d = row)) (by show eqB (D.fz (iT _)) (D.fz (iT _)) = _; exact eq_tup _ _) ?_
    refine ex_dec (fun hf => ?_) (fun hf => ?_)
    · (repeat (first
        | refine w_bcons ?_ | refine w_asg ?_ | refine w_par ?_ | refine w_exp ?_ | refine w_ife ?_ | refine w_ret ?_ | refine w_bnil ?_ | refine w_brk ?_ | refine w_cnt ?_
        | refine w_con ?_ | refine w_bin ?_ | refine w_neg ?_ | refine w_not ?_ | refine w_and ?_ | refine w_or ?_ | refine w_ifx ?_ | refine w_cmp ?_ | refine w_chain ?_
        | refine w_anil ?_ | refine w_acons ?_ | refine w_tup ?_ | refine w_lst ?_ | refine w_sub ?_ | refine w_ono ?_ | refine w_oso ?_ | refine w_slice ?_ | refine w_blt ?_ | refine w_isi ?_
        | refine w_call ?_ | refine w_ckw ?_ | refine w_rvl ?_ | refine w_lrg ?_ | refine w_to ?_ | refine w_ft ?_ | refine w_it ?_ | refine w_rng ?_ | refine w_enu ?_ | refine w_comp ?_
        | refine w_tp ?_ | refine w_tnil ?_ | refine w_tcons ?_
        | refine w_var (d := _) rfl rfl ?_ | refine w_varO (d := _) rfl rfl ?_ | refine w_lnv (d := _) rfl rfl ?_ | refine w_sbv (d0 := _) rfl ?_ | refine w_cio (d0 := _) rfl ?_ | refine w_app (l0 := _) rfl ?_ | refine w_st (d0 := _) rfl ?_ | refine w_retv (d := _) rfl ?_
        | refine w_nm (Nat.le_of_ble_eq_true rfl) ?_
        | refine ex_some (o_add _ _) ?_ | refine ex_some (o_sub _ _) ?_ | refine ex_some rfl ?_ | refine ex_int ?_ | refine ex_lst ?_ | refine ex_sbv rfl rfl rfl ?_ | refine ex_st rfl rfl rfl ?_
        | (refine ⟨(Nat.le_of_ble_eq_true rfl : _ ≤ lim), ?_⟩)))
      have hdg := (pr.iff d).mp hf
      have hge : (g : Int) ≤ d := Int.le_of_dvd (by omega) (Int.dvd_of_emod_eq_zero hdg)
      by_cases hlt : (g : Int) < d
      · exact absurd (Int.emod_self) (hI _ (take_of (dvs_sorted _) hg hd hlt))
      · show D.int d = D.int g
        rw [show d = (g : Int) from by omega]
    · (repeat (first
        | refine w_bcons ?_ | refine w_asg ?_ | refine w_par ?_ | refine w_exp ?_ | refine w_ife ?_ | refine w_ret ?_ | refine w_bnil ?_ | refine w_brk ?_ | refine w_cnt ?_
        | refine w_con ?_ | refine w_bin ?_ | refine w_neg ?_ | refine w_not ?_ | refine w_and ?_ | refine w_or ?_ | refine w_ifx ?_ | refine w_cmp ?_ | refine w_chain ?_
        | refine w_anil ?_ | refine w_acons ?_ | refine w_tup ?_ | refine w_lst ?_ | refine w_sub ?_ | refine w_ono ?_ | refine w_oso ?_ | refine w_slice ?_ | refine w_blt ?_ | refine w_isi ?_
        | refine w_call ?_ | refine w_ckw ?_ | refine w_rvl ?_ | refine w_lrg ?_ | refine w_to ?_ | refine w_ft ?_ | refine w_it ?_ | refine w_rng ?_ | refine w_enu ?_ | refine w_comp ?_
        | refine w_tp ?_ | refine w_tnil ?_ | refine w_tcons ?_
        | refine w_var (d := _) rfl rfl ?_ | refine w_varO (d := _) rfl rfl ?_ | refine w_lnv (d := _) rfl rfl ?_ | refine w_sbv (d0 := _) rfl ?_ | refine w_cio (d0 := _) rfl ?_ | refine w_app (l0 := _) rfl ?_ | refine w_st (d0 := _) rfl ?_ | refine w_retv (d := _) rfl ?_
        | refine w_nm (Nat.le_of_ble_eq_true rfl) ?_
        | refine ex_some (o_add _ _) ?_ | refine ex_some (o_sub _ _) ?_ | refine ex_some rfl ?_ | refine ex_int ?_ | refine ex_lst ?_ | refine ex_sbv rfl rfl rfl ?_ | refine ex_st rfl rfl rfl ?_
        | (refine ⟨(Nat.le_of_ble_eq_true rfl : _ ≤ lim), ?_⟩)))
      refine ⟨⟨_, rfl⟩, fun d' hd' => ?_⟩
      rw [List.take_succ, hd] at hd'
      rcases List.mem_append.mp hd' with z | z
      · exact hI d' z
      · have e : d' = d := by simpa using z
        rw [e]
        exact fun hz => hf ((pr.iff d).mpr hz)
  · exfalso
    rw [List.length_map, List.take_length] at hI
    exact hI _ hg Int.emod_self
end
end R49

namespace R49
open PySem PySem.Spec Rr
theorem item_0 (g : Int) (r : List Int) : itemD (D.fz (.lst true (iA (g :: r)))) (.int 0) = some (.int g) := by
  rw [D.fz, fzA_i]
  exact item_i (d := .lst false (iA (g :: r))) (xs := g :: r) rfl (by decide) (by rw [List.length_cons]; omega)
def NoOk (C : Fn) (p c : Int) : Prop := C 3 [.int p, .int c] = some (.int (ord p c), [])
theorem wholet (C : Fn) {p c : Int} {n : Int} (h : PC p c) (hC : NoOk C p c) (h1 : 0 ≤ n) (h2 : n ≤ 1000) : runF C m_whole_turn [.int p, .int n, .int c] = some (.int (n * (ord p c : Int)), []) := by
  have o12 := h.o12
  refine w_run rfl (by decide) rfl ?_
  show wB C _ [some (.int p), some (.int n), some (.int c)] _
  (repeat (first
    | refine w_bcons ?_ | refine w_asg ?_ | refine w_par ?_ | refine w_exp ?_ | refine w_ife ?_ | refine w_ret ?_ | refine w_bnil ?_ | refine w_brk ?_ | refine w_cnt ?_
    | refine w_con ?_ | refine w_bin ?_ | refine w_neg ?_ | refine w_not ?_ | refine w_and ?_ | refine w_or ?_ | refine w_ifx ?_ | refine w_cmp ?_ | refine w_chain ?_
    | refine w_anil ?_ | refine w_acons ?_ | refine w_tup ?_ | refine w_lst ?_ | refine w_sub ?_ | refine w_ono ?_ | refine w_oso ?_ | refine w_slice ?_ | refine w_blt ?_ | refine w_isi ?_
    | refine w_call ?_ | refine w_ckw ?_ | refine w_rvl ?_ | refine w_lrg ?_ | refine w_to ?_ | refine w_ft ?_ | refine w_it ?_ | refine w_rng ?_ | refine w_enu ?_ | refine w_comp ?_
    | refine w_tp ?_ | refine w_tnil ?_ | refine w_tcons ?_
    | refine w_var (d := _) rfl rfl ?_ | refine w_varO (d := _) rfl rfl ?_ | refine w_lnv (d := _) rfl rfl ?_ | refine w_sbv (d0 := _) rfl ?_ | refine w_cio (d0 := _) rfl ?_ | refine w_app (l0 := _) rfl ?_ | refine w_st (d0 := _) rfl ?_ | refine w_retv (d := _) rfl ?_
    | refine w_nm (Nat.le_of_ble_eq_true rfl) ?_
    | refine ex_some (o_add _ _) ?_ | refine ex_some (o_sub _ _) ?_ | refine ex_some rfl ?_ | refine ex_int ?_ | refine ex_lst ?_ | refine ex_sbv rfl rfl rfl ?_ | refine ex_st rfl rfl rfl ?_
    | (refine ⟨(Nat.le_of_ble_eq_true rfl : _ ≤ lim), ?_⟩)))
  refine ⟨_, hC, ?_⟩
  refine ex_some (o_mulS (by omega) (by omega) (by omega) (by omega)) ?_
  rfl
def WtOk (C : Fn) (p c : Int) : Prop := ∀ n : Int, 0 ≤ n → n ≤ 1000 → C 4 [.int p, .int n, .int c] = some (.int (n * (ord p c : Int)), [])
theorem bperiod (C : Fn) {p c : Int} {n : Nat} {row : List Int} {g : Nat} (h : PC p c) (hW : WtOk C p c) (hB : BtOk C p c row) (hn : 0 < row.length) (hn2 : row.length ≤ 16) (pr : Per p c row g) : runF C m_bent_period [.int p, .int c, iT row] = some (.int g, []) := by
  have o0 := h.o0
  have o12 := h.o12
  obtain ⟨gl, gd⟩ := pr.le h hn
  have g0 := pr.pos
  have hw : 0 < row.length * ord p c := Nat.mul_pos hn h.o0
  have hw2 : row.length * ord p c ≤ 16 * 12 := Nat.mul_le_mul hn2 o12
  refine w_run rfl (by decide) rfl ?_
  show wB C _ [some (.int p), some (.int c), some (iT row), none, none] _
  (repeat (first
    | refine w_bcons ?_ | refine w_asg ?_ | refine w_par ?_ | refine w_exp ?_ | refine w_ife ?_ | refine w_ret ?_ | refine w_bnil ?_ | refine w_brk ?_ | refine w_cnt ?_
    | refine w_con ?_ | refine w_bin ?_ | refine w_neg ?_ | refine w_not ?_ | refine w_and ?_ | refine w_or ?_ | refine w_ifx ?_ | refine w_cmp ?_ | refine w_chain ?_
    | refine w_anil ?_ | refine w_acons ?_ | refine w_tup ?_ | refine w_lst ?_ | refine w_sub ?_ | refine w_ono ?_ | refine w_oso ?_ | refine w_slice ?_ | refine w_blt ?_ | refine w_isi ?_
    | refine w_call ?_ | refine w_ckw ?_ | refine w_rvl ?_ | refine w_lrg ?_ | refine w_to ?_ | refine w_ft ?_ | refine w_it ?_ | refine w_rng ?_ | refine w_enu ?_ | refine w_comp ?_
    | refine w_tp ?_ | refine w_tnil ?_ | refine w_tcons ?_
    | refine w_var (d := _) rfl rfl ?_ | refine w_varO (d := _) rfl rfl ?_ | refine w_lnv (d := _) rfl rfl ?_ | refine w_sbv (d0 := _) rfl ?_ | refine w_cio (d0 := _) rfl ?_ | refine w_app (l0 := _) rfl ?_ | refine w_st (d0 := _) rfl ?_ | refine w_retv (d := _) rfl ?_
    | refine w_nm (Nat.le_of_ble_eq_true rfl) ?_
    | refine ex_some (o_add _ _) ?_ | refine ex_some (o_sub _ _) ?_ | refine ex_some rfl ?_ | refine ex_int ?_ | refine ex_lst ?_ | refine ex_sbv rfl rfl rfl ?_ | refine ex_st rfl rfl rfl ?_
    | (refine ⟨(Nat.le_of_ble_eq_true rfl : _ ≤ lim), ?_⟩)))
  simp only [List.length_map]
  refine ⟨_, hW _ (by omega) (by omega), ?_⟩
  rw [← Int.natCast_mul]
  generalize hwd : row.length * ord p c = W at *
  (repeat (first
    | refine w_bcons ?_ | refine w_asg ?_ | refine w_par ?_ | refine w_exp ?_ | refine w_ife ?_ | refine w_ret ?_ | refine w_bnil ?_ | refine w_brk ?_ | refine w_cnt ?_
    | refine w_con ?_ | refine w_bin ?_ | refine w_neg ?_ | refine w_not ?_ | refine w_and ?_ | refine w_or ?_ | refine w_ifx ?_ | refine w_cmp ?_ | refine w_chain ?_
    | refine w_anil ?_ | refine w_acons ?_ | refine w_tup ?_ | refine w_lst ?_ | refine w_sub ?_ | refine w_ono ?_ | refine w_oso ?_ | refine w_slice ?_ | refine w_blt ?_ | refine w_isi ?_
    | refine w_call ?_ | refine w_ckw ?_ | refine w_rvl ?_ | refine w_lrg ?_ | refine w_to ?_ | refine w_ft ?_ | refine w_it ?_ | refine w_rng ?_ | refine w_enu ?_ | refine w_comp ?_
    | refine w_tp ?_ | refine w_tnil ?_ | refine w_tcons ?_
    | refine w_var (d := _) rfl rfl ?_ | refine w_varO (d := _) rfl rfl ?_ | refine w_lnv (d := _) rfl rfl ?_ | refine w_sbv (d0 := _) rfl ?_ | refine w_cio (d0 := _) rfl ?_ | refine w_app (l0 := _) rfl ?_ | refine w_st (d0 := _) rfl ?_ | refine w_retv (d := _) rfl ?_
    | refine w_nm (Nat.le_of_ble_eq_true rfl) ?_
    | refine ex_some (o_add _ _) ?_ | refine ex_some (o_sub _ _) ?_ | refine ex_some rfl ?_ | refine ex_int ?_ | refine ex_lst ?_ | refine ex_sbv rfl rfl rfl ?_ | refine ex_st rfl rfl rfl ?_
    | (refine ⟨(Nat.le_of_ble_eq_true rfl : _ ≤ lim), ?_⟩)))
  refine ⟨_, _, rfl, rfl, by decide, sm62 (by omega), ?_⟩
  rw [show (((W : Int) + 1) - 1).toNat = W from by omega, up_D]
  refine ⟨by rw [List.length_map, up_len]; show _ ≤ 1000000; omega, wC_filter (isP fun d => decide ((W : Int) % d = 0) && decide (d % (g : Int) = 0)) (iD id) (fun d hd => ?_) ?_⟩
  · obtain ⟨x, hx, rfl⟩ := List.mem_map.mp hd
    have hx2 := up_mem.mp hx
    refine w_nm (Nat.le_of_ble_eq_true rfl) ?_
    show wE C _ [some (.int p), some (.int c), some (iT row), some (.int W), some (.int x)] _
    (repeat (first
      | refine w_bcons ?_ | refine w_asg ?_ | refine w_par ?_ | refine w_exp ?_ | refine w_ife ?_ | refine w_ret ?_ | refine w_bnil ?_ | refine w_brk ?_ | refine w_cnt ?_
      | refine w_con ?_ | refine w_bin ?_ | refine w_neg ?_ | refine w_not ?_ | refine w_and ?_ | refine w_or ?_ | refine w_ifx ?_ | refine w_cmp ?_ | refine w_chain ?_
      | refine w_anil ?_ | refine w_acons ?_ | refine w_tup ?_ | refine w_lst ?_ | refine w_sub ?_ | refine w_ono ?_ | refine w_oso ?_ | refine w_slice ?_ | refine w_blt ?_ | refine w_isi ?_
      | refine w_call ?_ | refine w_ckw ?_ | refine w_rvl ?_ | refine w_lrg ?_ | refine w_to ?_ | refine w_ft ?_ | refine w_it ?_ | refine w_rng ?_ | refine w_enu ?_ | refine w_comp ?_
      | refine w_tp ?_ | refine w_tnil ?_ | refine w_tcons ?_
      | refine w_var (d := _) rfl rfl ?_ | refine w_varO (d := _) rfl rfl ?_ | refine w_lnv (d := _) rfl rfl ?_ | refine w_sbv (d0 := _) rfl ?_ | refine w_cio (d0 := _) rfl ?_ | refine w_app (l0 := _) rfl ?_ | refine w_st (d0 := _) rfl ?_ | refine w_retv (d := _) rfl ?_
      | refine w_nm (Nat.le_of_ble_eq_true rfl) ?_
      | refine ex_some (o_add _ _) ?_ | refine ex_some (o_sub _ _) ?_ | refine ex_some rfl ?_ | refine ex_int ?_ | refine ex_lst ?_ | refine ex_sbv rfl rfl rfl ?_ | refine ex_st rfl rfl rfl ?_
      | (refine ⟨(Nat.le_of_ble_eq_true rfl : _ ≤ lim), ?_⟩)))
    refine ex_some (o_mod (by omega)) ?_
    (repeat (first
      | refine w_bcons ?_ | refine w_asg ?_ | refine w_par ?_ | refine w_exp ?_ | refine w_ife ?_ | refine w_ret ?_ | refine w_bnil ?_ | refine w_brk ?_ | refine w_cnt ?_
      | refine w_con ?_ | refine w_bin ?_ | refine w_neg ?_ | refine w_not ?_ | refine w_and ?_ | refine w_or ?_ | refine w_ifx ?_ | refine w_cmp ?_ | refine w_chain ?_
      | refine w_anil ?_ | refine w_acons ?_ | refine w_tup ?_ | refine w_lst ?_ | refine w_sub ?_ | refine w_ono ?_ | refine w_oso ?_ | refine w_slice ?_ | refine w_blt ?_ | refine w_isi ?_
      | refine w_call ?_ | refine w_ckw ?_ | refine w_rvl ?_ | refine w_lrg ?_ | refine w_to ?_ | refine w_ft ?_ | refine w_it ?_ | refine w_rng ?_ | refine w_enu ?_ | refine w_comp ?_
      | refine w_tp ?_ | refine w_tnil ?_ | refine w_tcons ?_
      | refine w_var (d := _) rfl rfl ?_ | refine w_varO (d := _) rfl rfl ?_ | refine w_lnv (d := _) rfl rfl ?_ | refine w_sbv (d0 := _) rfl ?_ | refine w_cio (d0 := _) rfl ?_ | refine w_app (l0 := _) rfl ?_ | refine w_st (d0 := _) rfl ?_ | refine w_retv (d := _) rfl ?_
      | refine w_nm (Nat.le_of_ble_eq_true rfl) ?_
      | refine ex_some (o_add _ _) ?_ | refine ex_some (o_sub _ _) ?_ | refine ex_some rfl ?_ | refine ex_int ?_ | refine ex_lst ?_ | refine ex_sbv rfl rfl rfl ?_ | refine ex_st rfl rfl rfl ?_
      | (refine ⟨(Nat.le_of_ble_eq_true rfl : _ ≤ lim), ?_⟩)))
    refine ex_dec (fun hz => ?_) (fun hz => ?_)
    · (repeat (first
        | refine w_bcons ?_ | refine w_asg ?_ | refine w_par ?_ | refine w_exp ?_ | refine w_ife ?_ | refine w_ret ?_ | refine w_bnil ?_ | refine w_brk ?_ | refine w_cnt ?_
        | refine w_con ?_ | refine w_bin ?_ | refine w_neg ?_ | refine w_not ?_ | refine w_and ?_ | refine w_or ?_ | refine w_ifx ?_ | refine w_cmp ?_ | refine w_chain ?_
        | refine w_anil ?_ | refine w_acons ?_ | refine w_tup ?_ | refine w_lst ?_ | refine w_sub ?_ | refine w_ono ?_ | refine w_oso ?_ | refine w_slice ?_ | refine w_blt ?_ | refine w_isi ?_
        | refine w_call ?_ | refine w_ckw ?_ | refine w_rvl ?_ | refine w_lrg ?_ | refine w_to ?_ | refine w_ft ?_ | refine w_it ?_ | refine w_rng ?_ | refine w_enu ?_ | refine w_comp ?_
        | refine w_tp ?_ | refine w_tnil ?_ | refine w_tcons ?_
        | refine w_var (d := _) rfl rfl ?_ | refine w_varO (d := _) rfl rfl ?_ | refine w_lnv (d := _) rfl rfl ?_ | refine w_sbv (d0 := _) rfl ?_ | refine w_cio (d0 := _) rfl ?_ | refine w_app (l0 := _) rfl ?_ | refine w_st (d0 := _) rfl ?_ | refine w_retv (d := _) rfl ?_
        | refine w_nm (Nat.le_of_ble_eq_true rfl) ?_
        | refine ex_some (o_add _ _) ?_ | refine ex_some (o_sub _ _) ?_ | refine ex_some rfl ?_ | refine ex_int ?_ | refine ex_lst ?_ | refine ex_sbv rfl rfl rfl ?_ | refine ex_st rfl rfl rfl ?_
        | (refine ⟨(Nat.le_of_ble_eq_true rfl : _ ≤ lim), ?_⟩)))
      refine ⟨_, hB x, ?_⟩
      (repeat (first
        | refine w_bcons ?_ | refine w_asg ?_ | refine w_par ?_ | refine w_exp ?_ | refine w_ife ?_ | refine w_ret ?_ | refine w_bnil ?_ | refine w_brk ?_ | refine w_cnt ?_
        | refine w_con ?_ | refine w_bin ?_ | refine w_neg ?_ | refine w_not ?_ | refine w_and ?_ | refine w_or ?_ | refine w_ifx ?_ | refine w_cmp ?_ | refine w_chain ?_
        | refine w_anil ?_ | refine w_acons ?_ | refine w_tup ?_ | refine w_lst ?_ | refine w_sub ?_ | refine w_ono ?_ | refine w_oso ?_ | refine w_slice ?_ | refine w_blt ?_ | refine w_isi ?_
        | refine w_call ?_ | refine w_ckw ?_ | refine w_rvl ?_ | refine w_lrg ?_ | refine w_to ?_ | refine w_ft ?_ | refine w_it ?_ | refine w_rng ?_ | refine w_enu ?_ | refine w_comp ?_
        | refine w_tp ?_ | refine w_tnil ?_ | refine w_tcons ?_
        | refine w_var (d := _) rfl rfl ?_ | refine w_varO (d := _) rfl rfl ?_ | refine w_lnv (d := _) rfl rfl ?_ | refine w_sbv (d0 := _) rfl ?_ | refine w_cio (d0 := _) rfl ?_ | refine w_app (l0 := _) rfl ?_ | refine w_st (d0 := _) rfl ?_ | refine w_retv (d := _) rfl ?_
        | refine w_nm (Nat.le_of_ble_eq_true rfl) ?_
        | refine ex_some (o_add _ _) ?_ | refine ex_some (o_sub _ _) ?_ | refine ex_some rfl ?_ | refine ex_int ?_ | refine ex_lst ?_ | refine ex_sbv rfl rfl rfl ?_ | refine ex_st rfl rfl rfl ?_
        | (refine ⟨(Nat.le_of_ble_eq_true rfl : _ ≤ lim), ?_⟩)))
      refine ex_some (z := decide (T p c row x = row)) (by show eqB (D.fz (iT _)) (D.fz (iT _)) = _; exact eq_tup _ _) ?_
      have e : decide (T p c row x = row) = decide (x % (g : Int) = 0) := decide_eq_decide.mpr (pr.iff x)
      refine ⟨?_, fun _ => rfl, fun _ => ?_⟩
      · show D.bl _ = D.bl (decide ((W : Int) % x = 0) && decide (x % (g : Int) = 0))
        rw [e, decide_eq_true hz, Bool.true_and]
      · (repeat (first
          | refine w_bcons ?_ | refine w_asg ?_ | refine w_par ?_ | refine w_exp ?_ | refine w_ife ?_ | refine w_ret ?_ | refine w_bnil ?_ | refine w_brk ?_ | refine w_cnt ?_
          | refine w_con ?_ | refine w_bin ?_ | refine w_neg ?_ | refine w_not ?_ | refine w_and ?_ | refine w_or ?_ | refine w_ifx ?_ | refine w_cmp ?_ | refine w_chain ?_
          | refine w_anil ?_ | refine w_acons ?_ | refine w_tup ?_ | refine w_lst ?_ | refine w_sub ?_ | refine w_ono ?_ | refine w_oso ?_ | refine w_slice ?_ | refine w_blt ?_ | refine w_isi ?_
          | refine w_call ?_ | refine w_ckw ?_ | refine w_rvl ?_ | refine w_lrg ?_ | refine w_to ?_ | refine w_ft ?_ | refine w_it ?_ | refine w_rng ?_ | refine w_enu ?_ | refine w_comp ?_
          | refine w_tp ?_ | refine w_tnil ?_ | refine w_tcons ?_
          | refine w_var (d := _) rfl rfl ?_ | refine w_varO (d := _) rfl rfl ?_ | refine w_lnv (d := _) rfl rfl ?_ | refine w_sbv (d0 := _) rfl ?_ | refine w_cio (d0 := _) rfl ?_ | refine w_app (l0 := _) rfl ?_ | refine w_st (d0 := _) rfl ?_ | refine w_retv (d := _) rfl ?_
          | refine w_nm (Nat.le_of_ble_eq_true rfl) ?_
          | refine ex_some (o_add _ _) ?_ | refine ex_some (o_sub _ _) ?_ | refine ex_some rfl ?_ | refine ex_int ?_ | refine ex_lst ?_ | refine ex_sbv rfl rfl rfl ?_ | refine ex_st rfl rfl rfl ?_
          | (refine ⟨(Nat.le_of_ble_eq_true rfl : _ ≤ lim), ?_⟩)))
        exact ⟨rfl, rfl⟩
    · refine ⟨?_, fun _ => rfl, fun hh => ?_⟩
      · show D.bl false = D.bl (decide ((W : Int) % x = 0) && decide (x % (g : Int) = 0))
        rw [decide_eq_false hz, Bool.false_and]
      · have hh : (decide ((W : Int) % x = 0) && decide (x % (g : Int) = 0)) = true := hh
        rw [decide_eq_false hz] at hh
        cases hh
  · rw [isP_filter]
    obtain ⟨r, er⟩ := head_of ((up_sorted W).filter fun d => decide ((W : Int) % d = 0) && decide (d % (g : Int) = 0)) (g := (g : Int)) (by
      rw [List.mem_filter, up_mem]
      exact ⟨⟨by omega, gl⟩, by rw [decide_eq_true gd, decide_eq_true Int.emod_self]; rfl⟩) (fun d hd => by
      rw [List.mem_filter, up_mem] at hd
      have := of_decide_eq_true (Bool.and_eq_true_iff.mp hd.2).2
      exact Int.le_of_dvd (by omega) (Int.dvd_of_emod_eq_zero this))
    rw [er]
    (repeat (first
      | refine w_bcons ?_ | refine w_asg ?_ | refine w_par ?_ | refine w_exp ?_ | refine w_ife ?_ | refine w_ret ?_ | refine w_bnil ?_ | refine w_brk ?_ | refine w_cnt ?_
      | refine w_con ?_ | refine w_bin ?_ | refine w_neg ?_ | refine w_not ?_ | refine w_and ?_ | refine w_or ?_ | refine w_ifx ?_ | refine w_cmp ?_ | refine w_chain ?_
      | refine w_anil ?_ | refine w_acons ?_ | refine w_tup ?_ | refine w_lst ?_ | refine w_sub ?_ | refine w_ono ?_ | refine w_oso ?_ | refine w_slice ?_ | refine w_blt ?_ | refine w_isi ?_
      | refine w_call ?_ | refine w_ckw ?_ | refine w_rvl ?_ | refine w_lrg ?_ | refine w_to ?_ | refine w_ft ?_ | refine w_it ?_ | refine w_rng ?_ | refine w_enu ?_ | refine w_comp ?_
      | refine w_tp ?_ | refine w_tnil ?_ | refine w_tcons ?_
      | refine w_var (d := _) rfl rfl ?_ | refine w_varO (d := _) rfl rfl ?_ | refine w_lnv (d := _) rfl rfl ?_ | refine w_sbv (d0 := _) rfl ?_ | refine w_cio (d0 := _) rfl ?_ | refine w_app (l0 := _) rfl ?_ | refine w_st (d0 := _) rfl ?_ | refine w_retv (d := _) rfl ?_
      | refine w_nm (Nat.le_of_ble_eq_true rfl) ?_
      | refine ex_some (o_add _ _) ?_ | refine ex_some (o_sub _ _) ?_ | refine ex_some rfl ?_ | refine ex_int ?_ | refine ex_lst ?_ | refine ex_sbv rfl rfl rfl ?_ | refine ex_st rfl rfl rfl ?_
      | (refine ⟨(Nat.le_of_ble_eq_true rfl : _ ≤ lim), ?_⟩)))
    exact ex_some (item_0 _ _) rfl
/-! c being 1 -/
theorem ex_one {p : Int} (h : PC p 1) (k : Int) : ex p 1 k = 1 := by
  unfold ex
  rw [Int.one_pow]
  exact Int.emod_eq_of_lt (by decide) h.p1
theorem ord_one {p : Int} (h : PC p 1) : ord p 1 = 1 := by
  have o0 := h.o0
  by_cases h1 : ord p 1 = 1
  · exact h1
  · exact absurd (by rw [Int.one_pow]; exact Int.emod_eq_of_lt (by decide) h.p1) (h.ol 1 (by decide) (by omega))
theorem X_one {p : Int} {n : Nat} {row : List Int} (h : PC p 1) (hr : Row p n row) (hn : 0 < row.length) (i : Int) : X p 1 row i = row.getD (i % (row.length : Int)).toNat 0 := by
  unfold X
  rw [ex_one h, Int.mul_one]
  have i0 := Int.emod_nonneg i (by omega : (row.length : Int) ≠ 0)
  have i1 := Int.emod_lt_of_pos i (by omega : (0 : Int) < row.length)
  have hj : (i % (row.length : Int)).toNat < row.length := by omega
  rw [List.getD_eq_getElem?_getD, List.getElem?_eq_getElem hj]
  have := hr.lo _ (List.getElem_mem hj)
  exact Int.emod_eq_of_lt this.1 this.2
theorem turnedr (C : Fn) {p : Int} {n : Nat} {row : List Int} (h : PC p 1) (hr : Row p n row) (hn : 0 < row.length) (hn2 : row.length ≤ 16) (by_ : Int) : runF C m_turned_row [iT row, .int by_] = some (iT (T p 1 row by_), []) := by
  have hz : (0 : Int) < row.length := by omega
  refine w_run rfl (by decide) rfl ?_
  show wB C _ [some (iT row), some (.int by_), none, none] _
  (repeat (first
    | refine w_bcons ?_ | refine w_asg ?_ | refine w_par ?_ | refine w_exp ?_ | refine w_ife ?_ | refine w_ret ?_ | refine w_bnil ?_ | refine w_brk ?_ | refine w_cnt ?_
    | refine w_con ?_ | refine w_bin ?_ | refine w_neg ?_ | refine w_not ?_ | refine w_and ?_ | refine w_or ?_ | refine w_ifx ?_ | refine w_cmp ?_ | refine w_chain ?_
    | refine w_anil ?_ | refine w_acons ?_ | refine w_tup ?_ | refine w_lst ?_ | refine w_sub ?_ | refine w_ono ?_ | refine w_oso ?_ | refine w_slice ?_ | refine w_blt ?_ | refine w_isi ?_
    | refine w_call ?_ | refine w_ckw ?_ | refine w_rvl ?_ | refine w_lrg ?_ | refine w_to ?_ | refine w_ft ?_ | refine w_it ?_ | refine w_rng ?_ | refine w_enu ?_ | refine w_comp ?_
    | refine w_tp ?_ | refine w_tnil ?_ | refine w_tcons ?_
    | refine w_var (d := _) rfl rfl ?_ | refine w_varO (d := _) rfl rfl ?_ | refine w_lnv (d := _) rfl rfl ?_ | refine w_sbv (d0 := _) rfl ?_ | refine w_cio (d0 := _) rfl ?_ | refine w_app (l0 := _) rfl ?_ | refine w_st (d0 := _) rfl ?_ | refine w_retv (d := _) rfl ?_
    | refine w_nm (Nat.le_of_ble_eq_true rfl) ?_
    | refine ex_some (o_add _ _) ?_ | refine ex_some (o_sub _ _) ?_ | refine ex_some rfl ?_ | refine ex_int ?_ | refine ex_lst ?_ | refine ex_sbv rfl rfl rfl ?_ | refine ex_st rfl rfl rfl ?_
    | (refine ⟨(Nat.le_of_ble_eq_true rfl : _ ≤ lim), ?_⟩)))
  simp only [List.length_map]
  refine ⟨sm62 (by omega), ?_⟩
  rw [Int.sub_zero, Int.toNat_natCast]
  refine ⟨by rw [intsD_len']; show _ ≤ 1000000; omega, wC_map (iD fun j => X p 1 row (j - by_)) (fun d hd => ?_) ?_⟩
  · unfold intsD at hd
    obtain ⟨j, hj, rfl⟩ := List.mem_map.mp hd
    have hj := List.mem_range.mp hj
    refine w_nm (Nat.le_of_ble_eq_true rfl) ?_
    rw [Int.zero_add]
    show wE C _ [some (iT row), some (.int by_), some (.int row.length), some (.int j)] _
    have a0 := Int.emod_nonneg ((j : Int) - by_) (Int.ne_of_gt hz)
    have a1 := Int.emod_lt_of_pos ((j : Int) - by_) hz
    have hi : itemD (iT row) (.int (((j : Int) - by_) % (row.length : Int))) = some (.int (X p 1 row ((j : Int) - by_))) := by
      rw [X_one h hr hn, List.getD_eq_getElem?_getD, List.getElem?_eq_getElem (by omega)]
      exact item_i (xs := row) rfl a0 (by omega)
    (repeat (first
      | refine w_bcons ?_ | refine w_asg ?_ | refine w_par ?_ | refine w_exp ?_ | refine w_ife ?_ | refine w_ret ?_ | refine w_bnil ?_ | refine w_brk ?_ | refine w_cnt ?_
      | refine w_con ?_ | refine w_bin ?_ | refine w_neg ?_ | refine w_not ?_ | refine w_and ?_ | refine w_or ?_ | refine w_ifx ?_ | refine w_cmp ?_ | refine w_chain ?_
      | refine w_anil ?_ | refine w_acons ?_ | refine w_tup ?_ | refine w_lst ?_ | refine w_sub ?_ | refine w_ono ?_ | refine w_oso ?_ | refine w_slice ?_ | refine w_blt ?_ | refine w_isi ?_
      | refine w_call ?_ | refine w_ckw ?_ | refine w_rvl ?_ | refine w_lrg ?_ | refine w_to ?_ | refine w_ft ?_ | refine w_it ?_ | refine w_rng ?_ | refine w_enu ?_ | refine w_comp ?_
      | refine w_tp ?_ | refine w_tnil ?_ | refine w_tcons ?_
      | refine w_var (d := _) rfl rfl ?_ | refine w_varO (d := _) rfl rfl ?_ | refine w_lnv (d := _) rfl rfl ?_ | refine w_sbv (d0 := _) rfl ?_ | refine w_cio (d0 := _) rfl ?_ | refine w_app (l0 := _) rfl ?_ | refine w_st (d0 := _) rfl ?_ | refine w_retv (d := _) rfl ?_
      | refine w_nm (Nat.le_of_ble_eq_true rfl) ?_
      | refine ex_some (o_add _ _) ?_ | refine ex_some (o_sub _ _) ?_ | refine ex_some rfl ?_ | refine ex_int ?_ | refine ex_lst ?_ | refine ex_sbv rfl rfl rfl ?_ | refine ex_st rfl rfl rfl ?_
      | (refine ⟨(Nat.le_of_ble_eq_true rfl : _ ≤ lim), ?_⟩)))
    refine ex_some (o_mod hz) ?_
    exact ⟨_, _, rfl, hi, rfl, rfl, rfl⟩
  · refine ex_some (z := iT (T p 1 row by_)) ?_ rfl
    have e : (intsD 0 row.length).map (iD fun j => X p 1 row (j - by_)) = iA (T p 1 row by_) := by
      unfold intsD T
      rw [iA, List.map_map, List.map_map]
      refine List.map_congr_left fun j _ => ?_
      show D.int (X p 1 row ((0 + (j : Int)) - by_)) = D.int (X p 1 row ((j : Int) - by_))
      rw [Int.zero_add]
    rw [e]
    show some (D.tup (D.fzA (iA _))) = _
    rw [fzA_i]
def TrOk (C : Fn) (p : Int) (row : List Int) : Prop := ∀ by_ : Int, C 6 [iT row, .int by_] = some (iT (T p 1 row by_), [])
theorem rperiod (C : Fn) {p : Int} {row : List Int} {g : Nat} (h : PC p 1) (hB : TrOk C p row) (hn : 0 < row.length) (hn2 : row.length ≤ 16) (pr : Per p 1 row g) : runF C m_row_period [iT row] = some (.int g, []) := by
  obtain ⟨gl, gd⟩ := pr.le h hn
  have g0 := pr.pos
  rw [ord_one h, Nat.mul_one] at gl gd
  refine w_run rfl (by decide) rfl ?_
  show wB C _ [some (iT row), none] _
  (repeat (first
    | refine w_bcons ?_ | refine w_asg ?_ | refine w_par ?_ | refine w_exp ?_ | refine w_ife ?_ | refine w_ret ?_ | refine w_bnil ?_ | refine w_brk ?_ | refine w_cnt ?_
    | refine w_con ?_ | refine w_bin ?_ | refine w_neg ?_ | refine w_not ?_ | refine w_and ?_ | refine w_or ?_ | refine w_ifx ?_ | refine w_cmp ?_ | refine w_chain ?_
    | refine w_anil ?_ | refine w_acons ?_ | refine w_tup ?_ | refine w_lst ?_ | refine w_sub ?_ | refine w_ono ?_ | refine w_oso ?_ | refine w_slice ?_ | refine w_blt ?_ | refine w_isi ?_
    | refine w_call ?_ | refine w_ckw ?_ | refine w_rvl ?_ | refine w_lrg ?_ | refine w_to ?_ | refine w_ft ?_ | refine w_it ?_ | refine w_rng ?_ | refine w_enu ?_ | refine w_comp ?_
    | refine w_tp ?_ | refine w_tnil ?_ | refine w_tcons ?_
    | refine w_var (d := _) rfl rfl ?_ | refine w_varO (d := _) rfl rfl ?_ | refine w_lnv (d := _) rfl rfl ?_ | refine w_sbv (d0 := _) rfl ?_ | refine w_cio (d0 := _) rfl ?_ | refine w_app (l0 := _) rfl ?_ | refine w_st (d0 := _) rfl ?_ | refine w_retv (d := _) rfl ?_
    | refine w_nm (Nat.le_of_ble_eq_true rfl) ?_
    | refine ex_some (o_add _ _) ?_ | refine ex_some (o_sub _ _) ?_ | refine ex_some rfl ?_ | refine ex_int ?_ | refine ex_lst ?_ | refine ex_sbv rfl rfl rfl ?_ | refine ex_st rfl rfl rfl ?_
    | (refine ⟨(Nat.le_of_ble_eq_true rfl : _ ≤ lim), ?_⟩)))
  simp only [List.length_map]
  refine ⟨_, _, rfl, rfl, by decide, sm62 (by omega), ?_⟩
  rw [show (((row.length : Int) + 1) - 1).toNat = row.length from by omega, up_D]
  refine ⟨by rw [List.length_map, up_len]; show _ ≤ 1000000; omega, wC_filter (isP fun d => decide (d % (g : Int) = 0)) (iD id) (fun d hd => ?_) ?_⟩
  · obtain ⟨x, hx, rfl⟩ := List.mem_map.mp hd
    have hx2 := up_mem.mp hx
    refine w_nm (Nat.le_of_ble_eq_true rfl) ?_
    show wE C _ [some (iT row), some (.int x)] _
    (repeat (first
      | refine w_bcons ?_ | refine w_asg ?_ | refine w_par ?_ | refine w_exp ?_ | refine w_ife ?_ | refine w_ret ?_ | refine w_bnil ?_ | refine w_brk ?_ | refine w_cnt ?_
      | refine w_con ?_ | refine w_bin ?_ | refine w_neg ?_ | refine w_not ?_ | refine w_and ?_ | refine w_or ?_ | refine w_ifx ?_ | refine w_cmp ?_ | refine w_chain ?_
      | refine w_anil ?_ | refine w_acons ?_ | refine w_tup ?_ | refine w_lst ?_ | refine w_sub ?_ | refine w_ono ?_ | refine w_oso ?_ | refine w_slice ?_ | refine w_blt ?_ | refine w_isi ?_
      | refine w_call ?_ | refine w_ckw ?_ | refine w_rvl ?_ | refine w_lrg ?_ | refine w_to ?_ | refine w_ft ?_ | refine w_it ?_ | refine w_rng ?_ | refine w_enu ?_ | refine w_comp ?_
      | refine w_tp ?_ | refine w_tnil ?_ | refine w_tcons ?_
      | refine w_var (d := _) rfl rfl ?_ | refine w_varO (d := _) rfl rfl ?_ | refine w_lnv (d := _) rfl rfl ?_ | refine w_sbv (d0 := _) rfl ?_ | refine w_cio (d0 := _) rfl ?_ | refine w_app (l0 := _) rfl ?_ | refine w_st (d0 := _) rfl ?_ | refine w_retv (d := _) rfl ?_
      | refine w_nm (Nat.le_of_ble_eq_true rfl) ?_
      | refine ex_some (o_add _ _) ?_ | refine ex_some (o_sub _ _) ?_ | refine ex_some rfl ?_ | refine ex_int ?_ | refine ex_lst ?_ | refine ex_sbv rfl rfl rfl ?_ | refine ex_st rfl rfl rfl ?_
      | (refine ⟨(Nat.le_of_ble_eq_true rfl : _ ≤ lim), ?_⟩)))
    refine ⟨_, hB x, ?_⟩
    (repeat (first
      | refine w_bcons ?_ | refine w_asg ?_ | refine w_par ?_ | refine w_exp ?_ | refine w_ife ?_ | refine w_ret ?_ | refine w_bnil ?_ | refine w_brk ?_ | refine w_cnt ?_
      | refine w_con ?_ | refine w_bin ?_ | refine w_neg ?_ | refine w_not ?_ | refine w_and ?_ | refine w_or ?_ | refine w_ifx ?_ | refine w_cmp ?_ | refine w_chain ?_
      | refine w_anil ?_ | refine w_acons ?_ | refine w_tup ?_ | refine w_lst ?_ | refine w_sub ?_ | refine w_ono ?_ | refine w_oso ?_ | refine w_slice ?_ | refine w_blt ?_ | refine w_isi ?_
      | refine w_call ?_ | refine w_ckw ?_ | refine w_rvl ?_ | refine w_lrg ?_ | refine w_to ?_ | refine w_ft ?_ | refine w_it ?_ | refine w_rng ?_ | refine w_enu ?_ | refine w_comp ?_
      | refine w_tp ?_ | refine w_tnil ?_ | refine w_tcons ?_
      | refine w_var (d := _) rfl rfl ?_ | refine w_varO (d := _) rfl rfl ?_ | refine w_lnv (d := _) rfl rfl ?_ | refine w_sbv (d0 := _) rfl ?_ | refine w_cio (d0 := _) rfl ?_ | refine w_app (l0 := _) rfl ?_ | refine w_st (d0 := _) rfl ?_ | refine w_retv (d := _) rfl ?_
      | refine w_nm (Nat.le_of_ble_eq_true rfl) ?_
      | refine ex_some (o_add _ _) ?_ | refine ex_some (o_sub _ _) ?_ | refine ex_some rfl ?_ | refine ex_int ?_ | refine ex_lst ?_ | refine ex_sbv rfl rfl rfl ?_ | refine ex_st rfl rfl rfl ?_
      | (refine ⟨(Nat.le_of_ble_eq_true rfl : _ ≤ lim), ?_⟩)))
    refine ex_some (z := decide (T p 1 row x = row)) (by show eqB (D.fz (iT _)) (D.fz (iT _)) = _; exact eq_tup _ _) ?_
    have e : decide (T p 1 row x = row) = decide (x % (g : Int) = 0) := decide_eq_decide.mpr (pr.iff x)
    refine ⟨?_, fun _ => rfl, fun _ => ?_⟩
    · show D.bl _ = D.bl (decide (x % (g : Int) = 0))
      rw [e]
    · (repeat (first
        | refine w_bcons ?_ | refine w_asg ?_ | refine w_par ?_ | refine w_exp ?_ | refine w_ife ?_ | refine w_ret ?_ | refine w_bnil ?_ | refine w_brk ?_ | refine w_cnt ?_
        | refine w_con ?_ | refine w_bin ?_ | refine w_neg ?_ | refine w_not ?_ | refine w_and ?_ | refine w_or ?_ | refine w_ifx ?_ | refine w_cmp ?_ | refine w_chain ?_
        | refine w_anil ?_ | refine w_acons ?_ | refine w_tup ?_ | refine w_lst ?_ | refine w_sub ?_ | refine w_ono ?_ | refine w_oso ?_ | refine w_slice ?_ | refine w_blt ?_ | refine w_isi ?_
        | refine w_call ?_ | refine w_ckw ?_ | refine w_rvl ?_ | refine w_lrg ?_ | refine w_to ?_ | refine w_ft ?_ | refine w_it ?_ | refine w_rng ?_ | refine w_enu ?_ | refine w_comp ?_
        | refine w_tp ?_ | refine w_tnil ?_ | refine w_tcons ?_
        | refine w_var (d := _) rfl rfl ?_ | refine w_varO (d := _) rfl rfl ?_ | refine w_lnv (d := _) rfl rfl ?_ | refine w_sbv (d0 := _) rfl ?_ | refine w_cio (d0 := _) rfl ?_ | refine w_app (l0 := _) rfl ?_ | refine w_st (d0 := _) rfl ?_ | refine w_retv (d := _) rfl ?_
        | refine w_nm (Nat.le_of_ble_eq_true rfl) ?_
        | refine ex_some (o_add _ _) ?_ | refine ex_some (o_sub _ _) ?_ | refine ex_some rfl ?_ | refine ex_int ?_ | refine ex_lst ?_ | refine ex_sbv rfl rfl rfl ?_ | refine ex_st rfl rfl rfl ?_
        | (refine ⟨(Nat.le_of_ble_eq_true rfl : _ ≤ lim), ?_⟩)))
      exact ⟨rfl, rfl⟩
  · rw [isP_filter]
    obtain ⟨r, er⟩ := head_of ((up_sorted row.length).filter fun d => decide (d % (g : Int) = 0)) (g := (g : Int)) (by
      rw [List.mem_filter, up_mem]
      exact ⟨⟨by omega, gl⟩, by rw [decide_eq_true Int.emod_self]⟩) (fun d hd => by
      rw [List.mem_filter, up_mem] at hd
      exact Int.le_of_dvd (by omega) (Int.dvd_of_emod_eq_zero (of_decide_eq_true hd.2)))
    rw [er]
    (repeat (first
      | refine w_bcons ?_ | refine w_asg ?_ | refine w_par ?_ | refine w_exp ?_ | refine w_ife ?_ | refine w_ret ?_ | refine w_bnil ?_ | refine w_brk ?_ | refine w_cnt ?_
      | refine w_con ?_ | refine w_bin ?_ | refine w_neg ?_ | refine w_not ?_ | refine w_and ?_ | refine w_or ?_ | refine w_ifx ?_ | refine w_cmp ?_ | refine w_chain ?_
      | refine w_anil ?_ | refine w_acons ?_ | refine w_tup ?_ | refine w_lst ?_ | refine w_sub ?_ | refine w_ono ?_ | refine w_oso ?_ | refine w_slice ?_ | refine w_blt ?_ | refine w_isi ?_
      | refine w_call ?_ | refine w_ckw ?_ | refine w_rvl ?_ | refine w_lrg ?_ | refine w_to ?_ | refine w_ft ?_ | refine w_it ?_ | refine w_rng ?_ | refine w_enu ?_ | refine w_comp ?_
      | refine w_tp ?_ | refine w_tnil ?_ | refine w_tcons ?_
      | refine w_var (d := _) rfl rfl ?_ | refine w_varO (d := _) rfl rfl ?_ | refine w_lnv (d := _) rfl rfl ?_ | refine w_sbv (d0 := _) rfl ?_ | refine w_cio (d0 := _) rfl ?_ | refine w_app (l0 := _) rfl ?_ | refine w_st (d0 := _) rfl ?_ | refine w_retv (d := _) rfl ?_
      | refine w_nm (Nat.le_of_ble_eq_true rfl) ?_
      | refine ex_some (o_add _ _) ?_ | refine ex_some (o_sub _ _) ?_ | refine ex_some rfl ?_ | refine ex_int ?_ | refine ex_lst ?_ | refine ex_sbv rfl rfl rfl ?_ | refine ex_st rfl rfl rfl ?_
      | (refine ⟨(Nat.le_of_ble_eq_true rfl : _ ≤ lim), ?_⟩)))
    exact ex_some (item_0 _ _) rfl
/-! bend_polynomial -/
def polyL (p n c : Int) : List Int := [p - c] ++ List.replicate (n - 1).toNat 0 ++ [1]
theorem tadd (xs ys : List Int) (h : xs.length + ys.length ≤ 1000) : boD .add (iT xs) (iT ys) = some (iT (xs ++ ys)) := by
  show (if (iA xs).length + (iA ys).length ≤ lim then some (D.tup (iA xs ++ iA ys)) else none) = _
  rw [if_pos (by rw [List.length_map, List.length_map]; show _ ≤ 1000000; omega), iT, List.map_append]
theorem tmul {k : Int} (h0 : 0 ≤ k) (h1 : k ≤ 1000) (x : Int) : boD .mul (iT [x]) (.int k) = some (iT (List.replicate k.toNat x)) := by
  show (if 0 ≤ k ∧ k ≤ 1000 ∧ ([D.int x] : List D).length ≤ 1000 ∧ [D.int x] ≠ [] then some (D.tup (List.replicate k.toNat [D.int x]).flatten) else none) = _
  rw [if_pos ⟨h0, h1, by simp, by simp⟩, iT, List.map_replicate]
  congr 2
  generalize k.toNat = z
  induction z with
  | zero => rfl
  | succ z ih => rw [List.replicate_succ, List.flatten_cons, ih, List.replicate_succ]; rfl
theorem bendp (C : Fn) {p n c : Int} (h1 : 1 ≤ n) (h2 : n ≤ 16) : runF C m_bend_polynomial [.int p, .int n, .int c] = some (iT (polyL p n c), []) := by
  refine w_run rfl (by decide) rfl ?_
  show wB C _ [some (.int p), some (.int n), some (.int c)] _
  (repeat (first
    | refine w_bcons ?_ | refine w_asg ?_ | refine w_par ?_ | refine w_exp ?_ | refine w_ife ?_ | refine w_ret ?_ | refine w_bnil ?_ | refine w_brk ?_ | refine w_cnt ?_
    | refine w_con ?_ | refine w_bin ?_ | refine w_neg ?_ | refine w_not ?_ | refine w_and ?_ | refine w_or ?_ | refine w_ifx ?_ | refine w_cmp ?_ | refine w_chain ?_
    | refine w_anil ?_ | refine w_acons ?_ | refine w_tup ?_ | refine w_lst ?_ | refine w_sub ?_ | refine w_ono ?_ | refine w_oso ?_ | refine w_slice ?_ | refine w_blt ?_ | refine w_isi ?_
    | refine w_call ?_ | refine w_ckw ?_ | refine w_rvl ?_ | refine w_lrg ?_ | refine w_to ?_ | refine w_ft ?_ | refine w_it ?_ | refine w_rng ?_ | refine w_enu ?_ | refine w_comp ?_
    | refine w_tp ?_ | refine w_tnil ?_ | refine w_tcons ?_
    | refine w_var (d := _) rfl rfl ?_ | refine w_varO (d := _) rfl rfl ?_ | refine w_lnv (d := _) rfl rfl ?_ | refine w_sbv (d0 := _) rfl ?_ | refine w_cio (d0 := _) rfl ?_ | refine w_app (l0 := _) rfl ?_ | refine w_st (d0 := _) rfl ?_ | refine w_retv (d := _) rfl ?_
    | refine w_nm (Nat.le_of_ble_eq_true rfl) ?_
    | refine ex_some (o_add _ _) ?_ | refine ex_some (o_sub _ _) ?_ | refine ex_some rfl ?_ | refine ex_int ?_ | refine ex_lst ?_ | refine ex_sbv rfl rfl rfl ?_ | refine ex_st rfl rfl rfl ?_
    | (refine ⟨(Nat.le_of_ble_eq_true rfl : _ ≤ lim), ?_⟩)))
  refine ex_some (tmul (x := 0) (k := n - 1) (by omega) (by omega)) ?_
  refine ex_some (tadd [p - c] (List.replicate (n - 1).toNat 0) (by rw [List.length_replicate]; simp; omega)) ?_
  (repeat (first
    | refine w_bcons ?_ | refine w_asg ?_ | refine w_par ?_ | refine w_exp ?_ | refine w_ife ?_ | refine w_ret ?_ | refine w_bnil ?_ | refine w_brk ?_ | refine w_cnt ?_
    | refine w_con ?_ | refine w_bin ?_ | refine w_neg ?_ | refine w_not ?_ | refine w_and ?_ | refine w_or ?_ | refine w_ifx ?_ | refine w_cmp ?_ | refine w_chain ?_
    | refine w_anil ?_ | refine w_acons ?_ | refine w_tup ?_ | refine w_lst ?_ | refine w_sub ?_ | refine w_ono ?_ | refine w_oso ?_ | refine w_slice ?_ | refine w_blt ?_ | refine w_isi ?_
    | refine w_call ?_ | refine w_ckw ?_ | refine w_rvl ?_ | refine w_lrg ?_ | refine w_to ?_ | refine w_ft ?_ | refine w_it ?_ | refine w_rng ?_ | refine w_enu ?_ | refine w_comp ?_
    | refine w_tp ?_ | refine w_tnil ?_ | refine w_tcons ?_
    | refine w_var (d := _) rfl rfl ?_ | refine w_varO (d := _) rfl rfl ?_ | refine w_lnv (d := _) rfl rfl ?_ | refine w_sbv (d0 := _) rfl ?_ | refine w_cio (d0 := _) rfl ?_ | refine w_app (l0 := _) rfl ?_ | refine w_st (d0 := _) rfl ?_ | refine w_retv (d := _) rfl ?_
    | refine w_nm (Nat.le_of_ble_eq_true rfl) ?_
    | refine ex_some (o_add _ _) ?_ | refine ex_some (o_sub _ _) ?_ | refine ex_some rfl ?_ | refine ex_int ?_ | refine ex_lst ?_ | refine ex_sbv rfl rfl rfl ?_ | refine ex_st rfl rfl rfl ?_
    | (refine ⟨(Nat.le_of_ble_eq_true rfl : _ ≤ lim), ?_⟩)))
  refine ex_some (tadd ([p - c] ++ List.replicate (n - 1).toNat 0) [1] (by rw [List.length_append, List.length_replicate]; simp; omega)) ?_
  rfl
end R49

namespace R49
open PySem PySem.Spec Rr
section
variable {p c : Int} {n g : Nat} {row : List Int}
theorem Per.turned (h : PC p c) (hr : Row p n row) (hn : 0 < row.length) (pr : Per p c row g) (a : Int) : Per p c (T p c row a) g := by
  refine ⟨pr.pos, fun b => ?_, by rw [T_len]; exact pr.dvd⟩
  rw [← pr.iff b]
  constructor
  · intro z
    rw [T_T h hn] at z
    have := T_T h hn (a + b) (-a)
    rw [z, T_T h hn, show a + -a = 0 from by omega, T_own h hr, show a + b + -a = b from by omega] at this
    exact this.symm
  · intro z
    rw [T_T h hn, Int.add_comm, ← T_T h hn, z]
def sc (p k : Int) (row : List Int) : List Int := row.map fun x => x * k % p
theorem sc_len (k : Int) : (sc p k row).length = row.length := List.length_map _
theorem sc_row (h : PC p c) (hr : Row p n row) (k : Int) : Row p n (sc p k row) := by
  have := h.p1
  refine ⟨by rw [sc_len]; exact hr.len, fun x hx => ?_⟩
  obtain ⟨y, _, rfl⟩ := List.mem_map.mp hx
  exact ⟨Int.emod_nonneg _ (by omega), Int.emod_lt_of_pos _ (by omega)⟩
theorem sc_X (h : PC p c) (hn : 0 < row.length) (k i : Int) : X p c (sc p k row) i = X p c row i * k % p := by
  have i0 := Int.emod_nonneg i (by omega : (row.length : Int) ≠ 0)
  have i1 := Int.emod_lt_of_pos i (by omega : (0 : Int) < row.length)
  have hj : (i % (row.length : Int)).toNat < row.length := by omega
  unfold X
  rw [sc_len]
  have e : (sc p k row).getD (i % (row.length : Int)).toNat 0 = row.getD (i % (row.length : Int)).toNat 0 * k % p := by
    rw [List.getD_eq_getElem?_getD, List.getD_eq_getElem?_getD, List.getElem?_eq_getElem hj, List.getElem?_eq_getElem (by rw [sc_len]; exact hj)]
    simp [sc]
  rw [e, eml, eml, Int.mul_assoc, Int.mul_assoc, Int.mul_comm k]
theorem sc_T (h : PC p c) (hn : 0 < row.length) (k b : Int) : T p c (sc p k row) b = sc p k (T p c row b) := by
  unfold T
  rw [sc_len]
  unfold sc
  rw [List.map_map]
  refine List.map_congr_left fun j _ => ?_
  exact sc_X h hn k _
theorem unit_inj (h : PC p c) {k x y : Int} (k0 : 0 < k) (kp : k < p) (hx : 0 ≤ x ∧ x < p) (hy : 0 ≤ y ∧ y < p) (e : x * k % p = y * k % p) : x = y := by
  have key : ∀ x y : Int, 0 ≤ y → y ≤ x → x < p → x * k % p = y * k % p → x = y := by
    intro x y h1 h2 h3 e
    have e2 : (x - y) * k % p = 0 := by
      rw [Int.sub_mul]
      exact Int.emod_eq_zero_of_dvd (Int.dvd_of_emod_eq_zero (by rw [Int.sub_emod, e, Int.sub_self]; exact Int.zero_emod _))
    have hz := h.nz (x - y).toNat k.toNat (by omega) (by omega) (by
      have e3 : (((x - y).toNat * k.toNat % p.toNat : Nat) : Int) = (x - y) * k % p := by
        rw [Int.natCast_emod, Int.natCast_mul, Int.toNat_of_nonneg (by omega), Int.toNat_of_nonneg (by omega), Int.toNat_of_nonneg (by omega)]
      omega)
    omega
  rcases Int.le_total y x with z | z
  · exact key x y hy.1 z hx.2 e
  · exact (key y x hx.1 z hy.2 e.symm).symm
theorem sc_inj (h : PC p c) {k : Int} (k0 : 0 < k) (kp : k < p) : ∀ {xs ys : List Int}, (∀ x ∈ xs, 0 ≤ x ∧ x < p) → (∀ y ∈ ys, 0 ≤ y ∧ y < p) → sc p k xs = sc p k ys → xs = ys
  | [], [], _, _, _ => rfl
  | [], _ :: _, _, _, e => by simp [sc] at e
  | _ :: _, [], _, _, e => by simp [sc] at e
  | x :: xs, y :: ys, hx, hy, e => by
    simp only [sc, List.map_cons, List.cons.injEq] at e
    rw [unit_inj h k0 kp (hx x List.mem_cons_self) (hy y List.mem_cons_self) e.1, sc_inj h k0 kp (fun z m => hx z (List.mem_cons_of_mem _ m)) (fun z m => hy z (List.mem_cons_of_mem _ m)) e.2]
theorem Per.scaled (h : PC p c) (hr : Row p n row) (hn : 0 < row.length) (pr : Per p c row g) {k : Int} (k0 : 0 < k) (kp : k < p) : Per p c (sc p k row) g := by
  refine ⟨pr.pos, fun b => ?_, by rw [sc_len]; exact pr.dvd⟩
  rw [← pr.iff b, sc_T h hn]
  exact ⟨fun e => sc_inj h k0 kp (T_row h hr b).lo hr.lo e, fun e => by rw [e]⟩
/-- a row with one number that is not 0 -/
def oneR (n at_ : Nat) (x : Int) : List Int := List.replicate at_ 0 ++ [x] ++ List.replicate (n - 1 - at_) 0
theorem oneR_len {n at_ : Nat} {x : Int} (ha : at_ < n) : (oneR n at_ x).length = n := by
  unfold oneR
  rw [List.length_append, List.length_append, List.length_replicate, List.length_replicate]
  show at_ + 1 + (n - 1 - at_) = n
  omega
theorem oneR_at {n at_ : Nat} {x : Int} (ha : at_ < n) (j : Nat) : (oneR n at_ x).getD j 0 = if j = at_ then x else 0 := by
  unfold oneR
  rw [List.getD_eq_getElem?_getD]
  by_cases h1 : j < at_
  · rw [List.append_assoc, List.getElem?_append_left (by rw [List.length_replicate]; exact h1), List.getElem?_replicate, if_pos h1, if_neg (by omega)]
    rfl
  · by_cases h2 : j = at_
    · subst h2
      rw [if_pos rfl, List.append_assoc, List.getElem?_append_right (by rw [List.length_replicate]; omega), List.length_replicate, Nat.sub_self]
      rfl
    · rw [if_neg h2, List.getElem?_append_right (by rw [List.length_append, List.length_replicate]; show at_ + 1 ≤ j; omega), List.getElem?_replicate]
      split <;> rfl
theorem oneR_row (h : PC p c) {at_ : Nat} {x : Int} (ha : at_ < n) (hx : 0 ≤ x ∧ x < p) : Row p n (oneR n at_ x) := by
  have := h.p1
  refine ⟨oneR_len ha, fun y hy => ?_⟩
  unfold oneR at hy
  rcases List.mem_append.mp hy with hy | hy
  · rcases List.mem_append.mp hy with hy | hy
    · rw [List.eq_of_mem_replicate hy]; omega
    · rw [List.mem_singleton.mp hy]; exact hx
  · rw [List.eq_of_mem_replicate hy]; omega
theorem oneR_per (h : PC p c) {at_ : Nat} {x : Int} (ha : at_ < n) (x0 : 0 < x) (xp : x < p) : Per p c (oneR n at_ x) (n * ord p c) := by
  have hl := oneR_len (x := x) ha
  have hr := oneR_row (n := n) h ha ⟨Int.le_of_lt x0, xp⟩
  have hn : 0 < (oneR n at_ x).length := by omega
  obtain ⟨g, pr⟩ := per_ex h hr hn
  have gd := pr.dvd
  rw [hl] at gd
  -- g itself is a multiple of the whole turn
  have hf := (pr.iff (g : Int)).mpr Int.emod_self
  have hX := T_get (p := p) (c := c) (row := oneR n at_ x) (by_ := (g : Int)) (j := at_) (by omega)
  rw [hf, oneR_at ha, if_pos rfl] at hX
  have hnz : (n : Int) ≠ 0 := by omega
  have hm0 := Int.emod_nonneg ((at_ : Int) - (g : Int)) hnz
  have hm1 := Int.emod_lt_of_pos ((at_ : Int) - (g : Int)) (by omega : (0 : Int) < n)
  have hval : x = (if (((at_ : Int) - (g : Int)) % (n : Int)).toNat = at_ then x else 0) * ex p c (-(((at_ : Int) - (g : Int)) / (n : Int))) % p := by
    have := hX
    unfold X at this
    rw [hl, oneR_at ha] at this
    exact this
  have hpos : (((at_ : Int) - (g : Int)) % (n : Int)).toNat = at_ := by
    by_cases hh : (((at_ : Int) - (g : Int)) % (n : Int)).toNat = at_
    · exact hh
    · rw [if_neg hh, Int.zero_mul, Int.zero_emod] at hval
      omega
  rw [if_pos hpos] at hval
  generalize hq : -(((at_ : Int) - (g : Int)) / (n : Int)) = q at hval
  have hgq : (g : Int) = (n : Int) * q := by
    have := Int.mul_ediv_add_emod ((at_ : Int) - (g : Int)) (n : Int)
    rw [← hq, Int.mul_neg]
    omega
  have hex : ex p c q = 1 := by
    refine unit_inj h x0 xp ⟨ex_nonneg h q, ex_lt h q⟩ ⟨by decide, h.p1⟩ ?_
    rw [Int.one_mul, Int.mul_comm, ← hval]
    exact (Int.emod_eq_of_lt (Int.le_of_lt x0) xp).symm
  have hm : (0 : Int) < (ord p c : Int) := by have := h.o0; omega
  have q0 := Int.emod_nonneg q (Int.ne_of_gt hm)
  have q1 := Int.emod_lt_of_pos q hm
  have hqm : q % (ord p c : Int) = 0 := by
    by_cases hh : q % (ord p c : Int) = 0
    · exact hh
    · exact absurd hex (h.ol (q % (ord p c : Int)).toNat (by omega) (by omega))
  have hdv : (n * ord p c) ∣ g := by
    have : ((n * ord p c : Nat) : Int) ∣ (g : Int) := by
      obtain ⟨r, hr⟩ := Int.dvd_of_emod_eq_zero hqm
      exact ⟨r, by rw [hgq, hr, Int.natCast_mul, Int.mul_assoc]⟩
    exact_mod_cast this
  have e : g = n * ord p c := Nat.dvd_antisymm (Nat.dvd_of_mod_eq_zero gd) hdv
  rw [← e]
  exact pr
end
end R49

namespace R49
open PySem PySem.Spec Rr
/-! ### who calls whom -/
theorem np_ok (k : Nat) {p c : Int} (h : PC p c) : NpOk (callN fs (k + 1)) p c := fun t ht => by
  rw [callN_eq (F := m_number_power) rfl]; exact h.np _ t ht
theorem pw_ok (k : Nat) {p c : Int} (h : PC p c) : PwOk (callN fs (k + 1)) p c := by
  unfold PwOk; rw [callN_eq (F := m__law_powers) rfl]; exact h.pws _
theorem no_ok (k : Nat) {p c : Int} (h : PC p c) : NoOk (callN fs (k + 1)) p c := by
  unfold NoOk; rw [callN_eq (F := m_number_order) rfl]; exact h.no _
theorem dv_ok (k : Nat) : DvOk (callN fs (k + 1)) := fun N h1 h2 => by
  rw [callN_eq (F := m__law_divisors) rfl]; exact divisors _ h1 h2
section
variable {p c : Int} {n g : Nat} {row : List Int}
theorem bt_ok (k : Nat) (h : PC p c) (hr : Row p n row) (hn : 0 < row.length) (hn2 : row.length ≤ 16) : BtOk (callN fs (k + 2)) p c row := fun b => by
  rw [callN_eq (F := m_bent_turned) rfl]; exact bturned _ h (np_ok k h) hr hn hn2 b
theorem lt_ok (k : Nat) (h : PC p c) (hr : Row p n row) (hn : 0 < row.length) (hn2 : row.length ≤ 16) : LtOk (callN fs (k + 2)) p c row := fun b => by
  rw [callN_eq (F := m__law_turned) rfl]; exact lturned _ h (pw_ok k h) hr hn hn2 b
theorem wt_ok (k : Nat) (h : PC p c) : WtOk (callN fs (k + 2)) p c := fun m h1 h2 => by
  rw [callN_eq (F := m_whole_turn) rfl]; exact wholet _ h (no_ok k h) h1 h2
theorem tr_ok (k : Nat) (h : PC p 1) (hr : Row p n row) (hn : 0 < row.length) (hn2 : row.length ≤ 16) : TrOk (callN fs (k + 1)) p row := fun b => by
  rw [callN_eq (F := m_turned_row) rfl]; exact turnedr _ h hr hn hn2 b
end
structure All (C : Fn) : Prop where
  draw : DrawOk C
  pick : PickOk C
  int : IntOk C
  isn : ∀ i : Int, Sm i → C 12 [.int i, .int i] = some (.bl true, [])
  isr : ∀ xs : List Int, xs.length ≤ 1000 → (∀ i ∈ xs, Sm i) → C 13 [iT xs, iT xs] = some (.bl true, [])
  pow : ∀ {p c : Int}, PC p c → PwOk C p c
  wt : ∀ {p c : Int}, PC p c → WtOk C p c
  dv : DvOk C
  bt : ∀ {p c : Int} {n : Nat} {row : List Int}, PC p c → Row p n row → 0 < row.length → row.length ≤ 16 → BtOk C p c row
  lt : ∀ {p c : Int} {n : Nat} {row : List Int}, PC p c → Row p n row → 0 < row.length → row.length ≤ 16 → LtOk C p c row
  tr : ∀ {p : Int} {n : Nat} {row : List Int}, PC p 1 → Row p n row → 0 < row.length → row.length ≤ 16 → TrOk C p row
  bp : ∀ {p c : Int} {n g : Nat} {row : List Int}, PC p c → Row p n row → 0 < row.length → row.length ≤ 16 → Per p c row g → C 5 [.int p, .int c, iT row] = some (.int g, [])
  lp : ∀ {p c : Int} {n g : Nat} {row : List Int}, PC p c → Row p n row → 0 < row.length → row.length ≤ 16 → Per p c row g → C 18 [.int p, .int c, iT row] = some (.int g, [])
  rp : ∀ {p : Int} {n g : Nat} {row : List Int}, PC p 1 → Row p n row → 0 < row.length → row.length ≤ 16 → Per p 1 row g → C 7 [iT row] = some (.int g, [])
  bend : ∀ {p n c : Int}, 1 ≤ n → n ≤ 16 → C 1 [.int p, .int n, .int c] = some (iT (polyL p n c), [])
theorem all_ok (k : Nat) : All (callN fs (k + 3)) where
  draw := draw_ok (k + 2)
  pick := pick_ok (k + 1)
  int := int_ok k
  isn := fun i h => by rw [callN_eq (F := m__law_is_number) rfl]; exact isnum _ h
  isr := fun xs h h2 => by rw [callN_eq (F := m__law_is_row) rfl]; exact isrow _ h h2
  pow := fun h => pw_ok (k + 2) h
  wt := fun h => wt_ok (k + 1) h
  dv := dv_ok (k + 2)
  bt := fun h hr hn hn2 => bt_ok (k + 1) h hr hn hn2
  lt := fun h hr hn hn2 => lt_ok (k + 1) h hr hn hn2
  tr := fun h hr hn hn2 => tr_ok (k + 2) h hr hn hn2
  bp := fun h hr hn hn2 pr => by rw [callN_eq (F := m_bent_period) rfl]; exact bperiod _ (n := 0) h (wt_ok k h) (bt_ok k h hr hn hn2) hn hn2 pr
  lp := fun h hr hn hn2 pr => by rw [callN_eq (F := m__law_period) rfl]; exact lperiod _ h (pw_ok (k + 1) h) (dv_ok (k + 1)) (lt_ok k h hr hn hn2) hn hn2 pr
  rp := fun h hr hn hn2 pr => by rw [callN_eq (F := m_row_period) rfl]; exact rperiod _ h (tr_ok (k + 1) h hr hn hn2) hn hn2 pr
  bend := fun h1 h2 => by rw [callN_eq (F := m_bend_polynomial) rfl]; exact bendp _ h1 h2
theorem sm_of {i : Int} (h1 : -(10 ^ 59) ≤ i) (h2 : i ≤ 10 ^ 59) : Sm i := by
  unfold Sm
  omega
theorem Row.sm {p : Int} {n : Nat} {row : List Int} {c : Int} (h : PC p c) (hr : Row p n row) : ∀ i ∈ row, Sm i := fun i hi => by
  have := hr.lo i hi
  have := h.p13
  exact sm_of (by omega) (by omega)
theorem poly_sm {p n c : Int} (h : PC p c) : ∀ i ∈ polyL p n c, Sm i := fun i hi => by
  have := h.p13
  have := h.c1
  have := h.cp
  unfold polyL at hi
  rcases List.mem_append.mp hi with hi | hi
  · rcases List.mem_append.mp hi with hi | hi
    · rw [List.mem_singleton.mp hi]; exact sm_of (by omega) (by omega)
    · rw [List.eq_of_mem_replicate hi]; exact sm_of (by omega) (by omega)
  · rw [List.mem_singleton.mp hi]; exact sm_of (by omega) (by omega)
theorem wright (C : Fn) (A : All C) {p n c : Int} (h : PC p c) (h1 : 1 ≤ n) (h2 : n ≤ 16) : runF C m__law_is_whole_right [.int p, .int n, .int c] = some (.bl true, []) := by
  have o12 := h.o12
  have hpl : (polyL p n c).length ≤ 1000 := by
    unfold polyL
    rw [List.length_append, List.length_append, List.length_replicate]
    simp
    omega
  refine w_run rfl (by decide) rfl ?_
  show wB C _ [some (.int p), some (.int n), some (.int c), none, none] _
  (repeat (first
    | refine w_bcons ?_ | refine w_asg ?_ | refine w_par ?_ | refine w_exp ?_ | refine w_ife ?_ | refine w_ret ?_ | refine w_bnil ?_ | refine w_brk ?_ | refine w_cnt ?_
    | refine w_con ?_ | refine w_bin ?_ | refine w_neg ?_ | refine w_not ?_ | refine w_and ?_ | refine w_or ?_ | refine w_ifx ?_ | refine w_cmp ?_ | refine w_chain ?_
    | refine w_anil ?_ | refine w_acons ?_ | refine w_tup ?_ | refine w_lst ?_ | refine w_sub ?_ | refine w_ono ?_ | refine w_oso ?_ | refine w_slice ?_ | refine w_blt ?_ | refine w_isi ?_
    | refine w_call ?_ | refine w_ckw ?_ | refine w_rvl ?_ | refine w_lrg ?_ | refine w_to ?_ | refine w_ft ?_ | refine w_it ?_ | refine w_rng ?_ | refine w_enu ?_ | refine w_comp ?_
    | refine w_tp ?_ | refine w_tnil ?_ | refine w_tcons ?_
    | refine w_var (d := _) rfl rfl ?_ | refine w_varO (d := _) rfl rfl ?_ | refine w_lnv (d := _) rfl rfl ?_ | refine w_sbv (d0 := _) rfl ?_ | refine w_cio (d0 := _) rfl ?_ | refine w_app (l0 := _) rfl ?_ | refine w_st (d0 := _) rfl ?_ | refine w_retv (d := _) rfl ?_
    | refine w_nm (Nat.le_of_ble_eq_true rfl) ?_
    | refine ex_some (o_add _ _) ?_ | refine ex_some (o_sub _ _) ?_ | refine ex_some rfl ?_ | refine ex_int ?_ | refine ex_lst ?_ | refine ex_sbv rfl rfl rfl ?_ | refine ex_st rfl rfl rfl ?_
    | (refine ⟨(Nat.le_of_ble_eq_true rfl : _ ≤ lim), ?_⟩)))
  refine ex_some (tmul (x := 0) (k := n - 1) (by omega) (by omega)) ?_
  refine ex_some (tadd [p - c] (List.replicate (n - 1).toNat 0) (by rw [List.length_replicate]; simp; omega)) ?_
  (repeat (first
    | refine w_bcons ?_ | refine w_asg ?_ | refine w_par ?_ | refine w_exp ?_ | refine w_ife ?_ | refine w_ret ?_ | refine w_bnil ?_ | refine w_brk ?_ | refine w_cnt ?_
    | refine w_con ?_ | refine w_bin ?_ | refine w_neg ?_ | refine w_not ?_ | refine w_and ?_ | refine w_or ?_ | refine w_ifx ?_ | refine w_cmp ?_ | refine w_chain ?_
    | refine w_anil ?_ | refine w_acons ?_ | refine w_tup ?_ | refine w_lst ?_ | refine w_sub ?_ | refine w_ono ?_ | refine w_oso ?_ | refine w_slice ?_ | refine w_blt ?_ | refine w_isi ?_
    | refine w_call ?_ | refine w_ckw ?_ | refine w_rvl ?_ | refine w_lrg ?_ | refine w_to ?_ | refine w_ft ?_ | refine w_it ?_ | refine w_rng ?_ | refine w_enu ?_ | refine w_comp ?_
    | refine w_tp ?_ | refine w_tnil ?_ | refine w_tcons ?_
    | refine w_var (d := _) rfl rfl ?_ | refine w_varO (d := _) rfl rfl ?_ | refine w_lnv (d := _) rfl rfl ?_ | refine w_sbv (d0 := _) rfl ?_ | refine w_cio (d0 := _) rfl ?_ | refine w_app (l0 := _) rfl ?_ | refine w_st (d0 := _) rfl ?_ | refine w_retv (d := _) rfl ?_
    | refine w_nm (Nat.le_of_ble_eq_true rfl) ?_
    | refine ex_some (o_add _ _) ?_ | refine ex_some (o_sub _ _) ?_ | refine ex_some rfl ?_ | refine ex_int ?_ | refine ex_lst ?_ | refine ex_sbv rfl rfl rfl ?_ | refine ex_st rfl rfl rfl ?_
    | (refine ⟨(Nat.le_of_ble_eq_true rfl : _ ≤ lim), ?_⟩)))
  refine ex_some (tadd ([p - c] ++ List.replicate (n - 1).toNat 0) [1] (by rw [List.length_append, List.length_replicate]; simp; omega)) ?_
  show wT C _ (iT (polyL p n c)) _ _
  refine w_nm (Nat.le_of_ble_eq_true rfl) ?_
  show wB C _ [some (.int p), some (.int n), some (.int c), some (iT (polyL p n c)), none] _
  (repeat (first
    | refine w_bcons ?_ | refine w_asg ?_ | refine w_par ?_ | refine w_exp ?_ | refine w_ife ?_ | refine w_ret ?_ | refine w_bnil ?_ | refine w_brk ?_ | refine w_cnt ?_
    | refine w_con ?_ | refine w_bin ?_ | refine w_neg ?_ | refine w_not ?_ | refine w_and ?_ | refine w_or ?_ | refine w_ifx ?_ | refine w_cmp ?_ | refine w_chain ?_
    | refine w_anil ?_ | refine w_acons ?_ | refine w_tup ?_ | refine w_lst ?_ | refine w_sub ?_ | refine w_ono ?_ | refine w_oso ?_ | refine w_slice ?_ | refine w_blt ?_ | refine w_isi ?_
    | refine w_call ?_ | refine w_ckw ?_ | refine w_rvl ?_ | refine w_lrg ?_ | refine w_to ?_ | refine w_ft ?_ | refine w_it ?_ | refine w_rng ?_ | refine w_enu ?_ | refine w_comp ?_
    | refine w_tp ?_ | refine w_tnil ?_ | refine w_tcons ?_
    | refine w_var (d := _) rfl rfl ?_ | refine w_varO (d := _) rfl rfl ?_ | refine w_lnv (d := _) rfl rfl ?_ | refine w_sbv (d0 := _) rfl ?_ | refine w_cio (d0 := _) rfl ?_ | refine w_app (l0 := _) rfl ?_ | refine w_st (d0 := _) rfl ?_ | refine w_retv (d := _) rfl ?_
    | refine w_nm (Nat.le_of_ble_eq_true rfl) ?_
    | refine ex_some (o_add _ _) ?_ | refine ex_some (o_sub _ _) ?_ | refine ex_some rfl ?_ | refine ex_int ?_ | refine ex_lst ?_ | refine ex_sbv rfl rfl rfl ?_ | refine ex_st rfl rfl rfl ?_
    | (refine ⟨(Nat.le_of_ble_eq_true rfl : _ ≤ lim), ?_⟩)))
  refine ⟨_, A.bend h1 h2, ?_⟩
  (repeat (first
    | refine w_bcons ?_ | refine w_asg ?_ | refine w_par ?_ | refine w_exp ?_ | refine w_ife ?_ | refine w_ret ?_ | refine w_bnil ?_ | refine w_brk ?_ | refine w_cnt ?_
    | refine w_con ?_ | refine w_bin ?_ | refine w_neg ?_ | refine w_not ?_ | refine w_and ?_ | refine w_or ?_ | refine w_ifx ?_ | refine w_cmp ?_ | refine w_chain ?_
    | refine w_anil ?_ | refine w_acons ?_ | refine w_tup ?_ | refine w_lst ?_ | refine w_sub ?_ | refine w_ono ?_ | refine w_oso ?_ | refine w_slice ?_ | refine w_blt ?_ | refine w_isi ?_
    | refine w_call ?_ | refine w_ckw ?_ | refine w_rvl ?_ | refine w_lrg ?_ | refine w_to ?_ | refine w_ft ?_ | refine w_it ?_ | refine w_rng ?_ | refine w_enu ?_ | refine w_comp ?_
    | refine w_tp ?_ | refine w_tnil ?_ | refine w_tcons ?_
    | refine w_var (d := _) rfl rfl ?_ | refine w_varO (d := _) rfl rfl ?_ | refine w_lnv (d := _) rfl rfl ?_ | refine w_sbv (d0 := _) rfl ?_ | refine w_cio (d0 := _) rfl ?_ | refine w_app (l0 := _) rfl ?_ | refine w_st (d0 := _) rfl ?_ | refine w_retv (d := _) rfl ?_
    | refine w_nm (Nat.le_of_ble_eq_true rfl) ?_
    | refine ex_some (o_add _ _) ?_ | refine ex_some (o_sub _ _) ?_ | refine ex_some rfl ?_ | refine ex_int ?_ | refine ex_lst ?_ | refine ex_sbv rfl rfl rfl ?_ | refine ex_st rfl rfl rfl ?_
    | (refine ⟨(Nat.le_of_ble_eq_true rfl : _ ≤ lim), ?_⟩)))
  refine ⟨_, A.isr _ hpl (poly_sm h), ?_⟩
  refine ex_bl ?_
  refine ex_not rfl ?_
  (repeat (first
    | refine w_bcons ?_ | refine w_asg ?_ | refine w_par ?_ | refine w_exp ?_ | refine w_ife ?_ | refine w_ret ?_ | refine w_bnil ?_ | refine w_brk ?_ | refine w_cnt ?_
    | refine w_con ?_ | refine w_bin ?_ | refine w_neg ?_ | refine w_not ?_ | refine w_and ?_ | refine w_or ?_ | refine w_ifx ?_ | refine w_cmp ?_ | refine w_chain ?_
    | refine w_anil ?_ | refine w_acons ?_ | refine w_tup ?_ | refine w_lst ?_ | refine w_sub ?_ | refine w_ono ?_ | refine w_oso ?_ | refine w_slice ?_ | refine w_blt ?_ | refine w_isi ?_
    | refine w_call ?_ | refine w_ckw ?_ | refine w_rvl ?_ | refine w_lrg ?_ | refine w_to ?_ | refine w_ft ?_ | refine w_it ?_ | refine w_rng ?_ | refine w_enu ?_ | refine w_comp ?_
    | refine w_tp ?_ | refine w_tnil ?_ | refine w_tcons ?_
    | refine w_var (d := _) rfl rfl ?_ | refine w_varO (d := _) rfl rfl ?_ | refine w_lnv (d := _) rfl rfl ?_ | refine w_sbv (d0 := _) rfl ?_ | refine w_cio (d0 := _) rfl ?_ | refine w_app (l0 := _) rfl ?_ | refine w_st (d0 := _) rfl ?_ | refine w_retv (d := _) rfl ?_
    | refine w_nm (Nat.le_of_ble_eq_true rfl) ?_
    | refine ex_some (o_add _ _) ?_ | refine ex_some (o_sub _ _) ?_ | refine ex_some rfl ?_ | refine ex_int ?_ | refine ex_lst ?_ | refine ex_sbv rfl rfl rfl ?_ | refine ex_st rfl rfl rfl ?_
    | (refine ⟨(Nat.le_of_ble_eq_true rfl : _ ≤ lim), ?_⟩)))
  refine ⟨_, A.bend h1 h2, ?_⟩
  (repeat (first
    | refine w_bcons ?_ | refine w_asg ?_ | refine w_par ?_ | refine w_exp ?_ | refine w_ife ?_ | refine w_ret ?_ | refine w_bnil ?_ | refine w_brk ?_ | refine w_cnt ?_
    | refine w_con ?_ | refine w_bin ?_ | refine w_neg ?_ | refine w_not ?_ | refine w_and ?_ | refine w_or ?_ | refine w_ifx ?_ | refine w_cmp ?_ | refine w_chain ?_
    | refine w_anil ?_ | refine w_acons ?_ | refine w_tup ?_ | refine w_lst ?_ | refine w_sub ?_ | refine w_ono ?_ | refine w_oso ?_ | refine w_slice ?_ | refine w_blt ?_ | refine w_isi ?_
    | refine w_call ?_ | refine w_ckw ?_ | refine w_rvl ?_ | refine w_lrg ?_ | refine w_to ?_ | refine w_ft ?_ | refine w_it ?_ | refine w_rng ?_ | refine w_enu ?_ | refine w_comp ?_
    | refine w_tp ?_ | refine w_tnil ?_ | refine w_tcons ?_
    | refine w_var (d := _) rfl rfl ?_ | refine w_varO (d := _) rfl rfl ?_ | refine w_lnv (d := _) rfl rfl ?_ | refine w_sbv (d0 := _) rfl ?_ | refine w_cio (d0 := _) rfl ?_ | refine w_app (l0 := _) rfl ?_ | refine w_st (d0 := _) rfl ?_ | refine w_retv (d := _) rfl ?_
    | refine w_nm (Nat.le_of_ble_eq_true rfl) ?_
    | refine ex_some (o_add _ _) ?_ | refine ex_some (o_sub _ _) ?_ | refine ex_some rfl ?_ | refine ex_int ?_ | refine ex_lst ?_ | refine ex_sbv rfl rfl rfl ?_ | refine ex_st rfl rfl rfl ?_
    | (refine ⟨(Nat.le_of_ble_eq_true rfl : _ ≤ lim), ?_⟩)))
  refine ⟨_, A.isr _ hpl (poly_sm h), ?_⟩
  refine ex_bl ?_
  refine ex_not rfl ?_
  (repeat (first
    | refine w_bcons ?_ | refine w_asg ?_ | refine w_par ?_ | refine w_exp ?_ | refine w_ife ?_ | refine w_ret ?_ | refine w_bnil ?_ | refine w_brk ?_ | refine w_cnt ?_
    | refine w_con ?_ | refine w_bin ?_ | refine w_neg ?_ | refine w_not ?_ | refine w_and ?_ | refine w_or ?_ | refine w_ifx ?_ | refine w_cmp ?_ | refine w_chain ?_
    | refine w_anil ?_ | refine w_acons ?_ | refine w_tup ?_ | refine w_lst ?_ | refine w_sub ?_ | refine w_ono ?_ | refine w_oso ?_ | refine w_slice ?_ | refine w_blt ?_ | refine w_isi ?_
    | refine w_call ?_ | refine w_ckw ?_ | refine w_rvl ?_ | refine w_lrg ?_ | refine w_to ?_ | refine w_ft ?_ | refine w_it ?_ | refine w_rng ?_ | refine w_enu ?_ | refine w_comp ?_
    | refine w_tp ?_ | refine w_tnil ?_ | refine w_tcons ?_
    | refine w_var (d := _) rfl rfl ?_ | refine w_varO (d := _) rfl rfl ?_ | refine w_lnv (d := _) rfl rfl ?_ | refine w_sbv (d0 := _) rfl ?_ | refine w_cio (d0 := _) rfl ?_ | refine w_app (l0 := _) rfl ?_ | refine w_st (d0 := _) rfl ?_ | refine w_retv (d := _) rfl ?_
    | refine w_nm (Nat.le_of_ble_eq_true rfl) ?_
    | refine ex_some (o_add _ _) ?_ | refine ex_some (o_sub _ _) ?_ | refine ex_some rfl ?_ | refine ex_int ?_ | refine ex_lst ?_ | refine ex_sbv rfl rfl rfl ?_ | refine ex_st rfl rfl rfl ?_
    | (refine ⟨(Nat.le_of_ble_eq_true rfl : _ ≤ lim), ?_⟩)))
  refine ⟨_, A.pow h, ?_⟩
  refine ex_some (z := .int (ord p c)) (by show some (D.int ((D.fzA (iA (pw p c))).length : Nat)) = _; rw [fzA_i, List.length_map, pw_len]) ?_
  refine ex_some (o_mulS (by omega) (by omega) (by omega) (by omega)) ?_
  have hsm : Sm (n * (ord p c : Int)) := by
    have e1 : 0 ≤ n * (ord p c : Int) := Int.mul_nonneg (by omega) (by omega)
    have e2 : n * (ord p c : Int) ≤ 16 * 12 := Int.mul_le_mul h2 (by omega) (by omega) (by decide)
    exact sm_of (by omega) (by omega)
  (repeat (first
    | refine w_bcons ?_ | refine w_asg ?_ | refine w_par ?_ | refine w_exp ?_ | refine w_ife ?_ | refine w_ret ?_ | refine w_bnil ?_ | refine w_brk ?_ | refine w_cnt ?_
    | refine w_con ?_ | refine w_bin ?_ | refine w_neg ?_ | refine w_not ?_ | refine w_and ?_ | refine w_or ?_ | refine w_ifx ?_ | refine w_cmp ?_ | refine w_chain ?_
    | refine w_anil ?_ | refine w_acons ?_ | refine w_tup ?_ | refine w_lst ?_ | refine w_sub ?_ | refine w_ono ?_ | refine w_oso ?_ | refine w_slice ?_ | refine w_blt ?_ | refine w_isi ?_
    | refine w_call ?_ | refine w_ckw ?_ | refine w_rvl ?_ | refine w_lrg ?_ | refine w_to ?_ | refine w_ft ?_ | refine w_it ?_ | refine w_rng ?_ | refine w_enu ?_ | refine w_comp ?_
    | refine w_tp ?_ | refine w_tnil ?_ | refine w_tcons ?_
    | refine w_var (d := _) rfl rfl ?_ | refine w_varO (d := _) rfl rfl ?_ | refine w_lnv (d := _) rfl rfl ?_ | refine w_sbv (d0 := _) rfl ?_ | refine w_cio (d0 := _) rfl ?_ | refine w_app (l0 := _) rfl ?_ | refine w_st (d0 := _) rfl ?_ | refine w_retv (d := _) rfl ?_
    | refine w_nm (Nat.le_of_ble_eq_true rfl) ?_
    | refine ex_some (o_add _ _) ?_ | refine ex_some (o_sub _ _) ?_ | refine ex_some rfl ?_ | refine ex_int ?_ | refine ex_lst ?_ | refine ex_sbv rfl rfl rfl ?_ | refine ex_st rfl rfl rfl ?_
    | (refine ⟨(Nat.le_of_ble_eq_true rfl : _ ≤ lim), ?_⟩)))
  refine ⟨_, A.wt h n (by omega) (by omega), ?_⟩
  (repeat (first
    | refine w_bcons ?_ | refine w_asg ?_ | refine w_par ?_ | refine w_exp ?_ | refine w_ife ?_ | refine w_ret ?_ | refine w_bnil ?_ | refine w_brk ?_ | refine w_cnt ?_
    | refine w_con ?_ | refine w_bin ?_ | refine w_neg ?_ | refine w_not ?_ | refine w_and ?_ | refine w_or ?_ | refine w_ifx ?_ | refine w_cmp ?_ | refine w_chain ?_
    | refine w_anil ?_ | refine w_acons ?_ | refine w_tup ?_ | refine w_lst ?_ | refine w_sub ?_ | refine w_ono ?_ | refine w_oso ?_ | refine w_slice ?_ | refine w_blt ?_ | refine w_isi ?_
    | refine w_call ?_ | refine w_ckw ?_ | refine w_rvl ?_ | refine w_lrg ?_ | refine w_to ?_ | refine w_ft ?_ | refine w_it ?_ | refine w_rng ?_ | refine w_enu ?_ | refine w_comp ?_
    | refine w_tp ?_ | refine w_tnil ?_ | refine w_tcons ?_
    | refine w_var (d := _) rfl rfl ?_ | refine w_varO (d := _) rfl rfl ?_ | refine w_lnv (d := _) rfl rfl ?_ | refine w_sbv (d0 := _) rfl ?_ | refine w_cio (d0 := _) rfl ?_ | refine w_app (l0 := _) rfl ?_ | refine w_st (d0 := _) rfl ?_ | refine w_retv (d := _) rfl ?_
    | refine w_nm (Nat.le_of_ble_eq_true rfl) ?_
    | refine ex_some (o_add _ _) ?_ | refine ex_some (o_sub _ _) ?_ | refine ex_some rfl ?_ | refine ex_int ?_ | refine ex_lst ?_ | refine ex_sbv rfl rfl rfl ?_ | refine ex_st rfl rfl rfl ?_
    | (refine ⟨(Nat.le_of_ble_eq_true rfl : _ ≤ lim), ?_⟩)))
  refine ⟨_, A.isn _ hsm, ?_⟩
  refine ex_yes rfl ?_
  (repeat (first
    | refine w_bcons ?_ | refine w_asg ?_ | refine w_par ?_ | refine w_exp ?_ | refine w_ife ?_ | refine w_ret ?_ | refine w_bnil ?_ | refine w_brk ?_ | refine w_cnt ?_
    | refine w_con ?_ | refine w_bin ?_ | refine w_neg ?_ | refine w_not ?_ | refine w_and ?_ | refine w_or ?_ | refine w_ifx ?_ | refine w_cmp ?_ | refine w_chain ?_
    | refine w_anil ?_ | refine w_acons ?_ | refine w_tup ?_ | refine w_lst ?_ | refine w_sub ?_ | refine w_ono ?_ | refine w_oso ?_ | refine w_slice ?_ | refine w_blt ?_ | refine w_isi ?_
    | refine w_call ?_ | refine w_ckw ?_ | refine w_rvl ?_ | refine w_lrg ?_ | refine w_to ?_ | refine w_ft ?_ | refine w_it ?_ | refine w_rng ?_ | refine w_enu ?_ | refine w_comp ?_
    | refine w_tp ?_ | refine w_tnil ?_ | refine w_tcons ?_
    | refine w_var (d := _) rfl rfl ?_ | refine w_varO (d := _) rfl rfl ?_ | refine w_lnv (d := _) rfl rfl ?_ | refine w_sbv (d0 := _) rfl ?_ | refine w_cio (d0 := _) rfl ?_ | refine w_app (l0 := _) rfl ?_ | refine w_st (d0 := _) rfl ?_ | refine w_retv (d := _) rfl ?_
    | refine w_nm (Nat.le_of_ble_eq_true rfl) ?_
    | refine ex_some (o_add _ _) ?_ | refine ex_some (o_sub _ _) ?_ | refine ex_some rfl ?_ | refine ex_int ?_ | refine ex_lst ?_ | refine ex_sbv rfl rfl rfl ?_ | refine ex_st rfl rfl rfl ?_
    | (refine ⟨(Nat.le_of_ble_eq_true rfl : _ ≤ lim), ?_⟩)))
  refine ⟨_, A.wt h n (by omega) (by omega), ?_⟩
  (repeat (first
    | refine w_bcons ?_ | refine w_asg ?_ | refine w_par ?_ | refine w_exp ?_ | refine w_ife ?_ | refine w_ret ?_ | refine w_bnil ?_ | refine w_brk ?_ | refine w_cnt ?_
    | refine w_con ?_ | refine w_bin ?_ | refine w_neg ?_ | refine w_not ?_ | refine w_and ?_ | refine w_or ?_ | refine w_ifx ?_ | refine w_cmp ?_ | refine w_chain ?_
    | refine w_anil ?_ | refine w_acons ?_ | refine w_tup ?_ | refine w_lst ?_ | refine w_sub ?_ | refine w_ono ?_ | refine w_oso ?_ | refine w_slice ?_ | refine w_blt ?_ | refine w_isi ?_
    | refine w_call ?_ | refine w_ckw ?_ | refine w_rvl ?_ | refine w_lrg ?_ | refine w_to ?_ | refine w_ft ?_ | refine w_it ?_ | refine w_rng ?_ | refine w_enu ?_ | refine w_comp ?_
    | refine w_tp ?_ | refine w_tnil ?_ | refine w_tcons ?_
    | refine w_var (d := _) rfl rfl ?_ | refine w_varO (d := _) rfl rfl ?_ | refine w_lnv (d := _) rfl rfl ?_ | refine w_sbv (d0 := _) rfl ?_ | refine w_cio (d0 := _) rfl ?_ | refine w_app (l0 := _) rfl ?_ | refine w_st (d0 := _) rfl ?_ | refine w_retv (d := _) rfl ?_
    | refine w_nm (Nat.le_of_ble_eq_true rfl) ?_
    | refine ex_some (o_add _ _) ?_ | refine ex_some (o_sub _ _) ?_ | refine ex_some rfl ?_ | refine ex_int ?_ | refine ex_lst ?_ | refine ex_sbv rfl rfl rfl ?_ | refine ex_st rfl rfl rfl ?_
    | (refine ⟨(Nat.le_of_ble_eq_true rfl : _ ≤ lim), ?_⟩)))
  refine ⟨_, A.isn _ hsm, ?_⟩
  rfl
end R49

namespace R49
open PySem PySem.Spec Rr
def GcOk (C : Fn) : Prop := ∀ a b : Nat, b ≤ 1000 → C 14 [.int a, .int b] = some (.int (Nat.gcd a b), [])
theorem gc_ok (k : Nat) : GcOk (callN fs (k + 1)) := fun a b hb => by
  rw [callN_eq (F := m__law_gcd) rfl]
  refine w_run rfl (by decide) rfl ?_
  show wB _ _ [some (.int a), some (.int b)] _
  refine w_then (fun ρ => ρ = [some (.int (Nat.gcd a b)), some (.int 0)]) ?_ fun ρ eρ => ?_
  · refine w_whl (fun m ρ => ∃ x y : Nat, ρ = [some (.int x), some (.int y)] ∧ Nat.gcd x y = Nat.gcd a b ∧ m = y) ⟨b, by show b < 100000; omega, a, b, rfl, rfl, rfl⟩ fun m ρ ⟨x, y, eρ, hg, em⟩ => ?_
    subst eρ em
    show wE _ _ [some (.int x), some (.int m)] _
    (repeat (first
      | refine w_bcons ?_ | refine w_asg ?_ | refine w_par ?_ | refine w_exp ?_ | refine w_ife ?_ | refine w_ret ?_ | refine w_bnil ?_ | refine w_brk ?_ | refine w_cnt ?_
      | refine w_con ?_ | refine w_bin ?_ | refine w_neg ?_ | refine w_not ?_ | refine w_and ?_ | refine w_or ?_ | refine w_ifx ?_ | refine w_cmp ?_ | refine w_chain ?_
      | refine w_anil ?_ | refine w_acons ?_ | refine w_tup ?_ | refine w_lst ?_ | refine w_sub ?_ | refine w_ono ?_ | refine w_oso ?_ | refine w_slice ?_ | refine w_blt ?_ | refine w_isi ?_
      | refine w_call ?_ | refine w_ckw ?_ | refine w_rvl ?_ | refine w_lrg ?_ | refine w_to ?_ | refine w_ft ?_ | refine w_it ?_ | refine w_rng ?_ | refine w_enu ?_ | refine w_comp ?_
      | refine w_tp ?_ | refine w_tnil ?_ | refine w_tcons ?_
      | refine w_var (d := _) rfl rfl ?_ | refine w_varO (d := _) rfl rfl ?_ | refine w_lnv (d := _) rfl rfl ?_ | refine w_sbv (d0 := _) rfl ?_ | refine w_cio (d0 := _) rfl ?_ | refine w_app (l0 := _) rfl ?_ | refine w_st (d0 := _) rfl ?_ | refine w_retv (d := _) rfl ?_
      | refine w_nm (Nat.le_of_ble_eq_true rfl) ?_
      | refine ex_some (o_add _ _) ?_ | refine ex_some (o_sub _ _) ?_ | refine ex_some rfl ?_ | refine ex_int ?_ | refine ex_lst ?_ | refine ex_sbv rfl rfl rfl ?_ | refine ex_st rfl rfl rfl ?_
      | (refine ⟨(Nat.le_of_ble_eq_true rfl : _ ≤ lim), ?_⟩)))
    by_cases hz : m = 0
    · subst hz
      refine ⟨false, by simp, fun _ => ⟨rfl, ?_⟩, fun h => (nomatch h)⟩
      rw [Nat.gcd_zero_right] at hg
      rw [← hg]
      rfl
    · refine ⟨true, by simp [hz], fun h => (nomatch h), fun _ => ?_⟩
      (repeat (first
        | refine w_bcons ?_ | refine w_asg ?_ | refine w_par ?_ | refine w_exp ?_ | refine w_ife ?_ | refine w_ret ?_ | refine w_bnil ?_ | refine w_brk ?_ | refine w_cnt ?_
        | refine w_con ?_ | refine w_bin ?_ | refine w_neg ?_ | refine w_not ?_ | refine w_and ?_ | refine w_or ?_ | refine w_ifx ?_ | refine w_cmp ?_ | refine w_chain ?_
        | refine w_anil ?_ | refine w_acons ?_ | refine w_tup ?_ | refine w_lst ?_ | refine w_sub ?_ | refine w_ono ?_ | refine w_oso ?_ | refine w_slice ?_ | refine w_blt ?_ | refine w_isi ?_
        | refine w_call ?_ | refine w_ckw ?_ | refine w_rvl ?_ | refine w_lrg ?_ | refine w_to ?_ | refine w_ft ?_ | refine w_it ?_ | refine w_rng ?_ | refine w_enu ?_ | refine w_comp ?_
        | refine w_tp ?_ | refine w_tnil ?_ | refine w_tcons ?_
        | refine w_var (d := _) rfl rfl ?_ | refine w_varO (d := _) rfl rfl ?_ | refine w_lnv (d := _) rfl rfl ?_ | refine w_sbv (d0 := _) rfl ?_ | refine w_cio (d0 := _) rfl ?_ | refine w_app (l0 := _) rfl ?_ | refine w_st (d0 := _) rfl ?_ | refine w_retv (d := _) rfl ?_
        | refine w_nm (Nat.le_of_ble_eq_true rfl) ?_
        | refine ex_some (o_add _ _) ?_ | refine ex_some (o_sub _ _) ?_ | refine ex_some rfl ?_ | refine ex_int ?_ | refine ex_lst ?_ | refine ex_sbv rfl rfl rfl ?_ | refine ex_st rfl rfl rfl ?_
        | (refine ⟨(Nat.le_of_ble_eq_true rfl : _ ≤ lim), ?_⟩)))
      refine ex_some (o_mod (by omega)) ?_
      (repeat (first
        | refine w_bcons ?_ | refine w_asg ?_ | refine w_par ?_ | refine w_exp ?_ | refine w_ife ?_ | refine w_ret ?_ | refine w_bnil ?_ | refine w_brk ?_ | refine w_cnt ?_
        | refine w_con ?_ | refine w_bin ?_ | refine w_neg ?_ | refine w_not ?_ | refine w_and ?_ | refine w_or ?_ | refine w_ifx ?_ | refine w_cmp ?_ | refine w_chain ?_
        | refine w_anil ?_ | refine w_acons ?_ | refine w_tup ?_ | refine w_lst ?_ | refine w_sub ?_ | refine w_ono ?_ | refine w_oso ?_ | refine w_slice ?_ | refine w_blt ?_ | refine w_isi ?_
        | refine w_call ?_ | refine w_ckw ?_ | refine w_rvl ?_ | refine w_lrg ?_ | refine w_to ?_ | refine w_ft ?_ | refine w_it ?_ | refine w_rng ?_ | refine w_enu ?_ | refine w_comp ?_
        | refine w_tp ?_ | refine w_tnil ?_ | refine w_tcons ?_
        | refine w_var (d := _) rfl rfl ?_ | refine w_varO (d := _) rfl rfl ?_ | refine w_lnv (d := _) rfl rfl ?_ | refine w_sbv (d0 := _) rfl ?_ | refine w_cio (d0 := _) rfl ?_ | refine w_app (l0 := _) rfl ?_ | refine w_st (d0 := _) rfl ?_ | refine w_retv (d := _) rfl ?_
        | refine w_nm (Nat.le_of_ble_eq_true rfl) ?_
        | refine ex_some (o_add _ _) ?_ | refine ex_some (o_sub _ _) ?_ | refine ex_some rfl ?_ | refine ex_int ?_ | refine ex_lst ?_ | refine ex_sbv rfl rfl rfl ?_ | refine ex_st rfl rfl rfl ?_
        | (refine ⟨(Nat.le_of_ble_eq_true rfl : _ ≤ lim), ?_⟩)))
      refine ⟨x % m, Nat.mod_lt _ (by omega), m, x % m, ?_, ?_, rfl⟩
      · rw [Int.natCast_emod]; rfl
      · rw [← hg, Nat.gcd_comm x m, Nat.gcd_rec m x, Nat.gcd_comm]
  · subst eρ
    (repeat (first
      | refine w_bcons ?_ | refine w_asg ?_ | refine w_par ?_ | refine w_exp ?_ | refine w_ife ?_ | refine w_ret ?_ | refine w_bnil ?_ | refine w_brk ?_ | refine w_cnt ?_
      | refine w_con ?_ | refine w_bin ?_ | refine w_neg ?_ | refine w_not ?_ | refine w_and ?_ | refine w_or ?_ | refine w_ifx ?_ | refine w_cmp ?_ | refine w_chain ?_
      | refine w_anil ?_ | refine w_acons ?_ | refine w_tup ?_ | refine w_lst ?_ | refine w_sub ?_ | refine w_ono ?_ | refine w_oso ?_ | refine w_slice ?_ | refine w_blt ?_ | refine w_isi ?_
      | refine w_call ?_ | refine w_ckw ?_ | refine w_rvl ?_ | refine w_lrg ?_ | refine w_to ?_ | refine w_ft ?_ | refine w_it ?_ | refine w_rng ?_ | refine w_enu ?_ | refine w_comp ?_
      | refine w_tp ?_ | refine w_tnil ?_ | refine w_tcons ?_
      | refine w_var (d := _) rfl rfl ?_ | refine w_varO (d := _) rfl rfl ?_ | refine w_lnv (d := _) rfl rfl ?_ | refine w_sbv (d0 := _) rfl ?_ | refine w_cio (d0 := _) rfl ?_ | refine w_app (l0 := _) rfl ?_ | refine w_st (d0 := _) rfl ?_ | refine w_retv (d := _) rfl ?_
      | refine w_nm (Nat.le_of_ble_eq_true rfl) ?_
      | refine ex_some (o_add _ _) ?_ | refine ex_some (o_sub _ _) ?_ | refine ex_some rfl ?_ | refine ex_int ?_ | refine ex_lst ?_ | refine ex_sbv rfl rfl rfl ?_ | refine ex_st rfl rfl rfl ?_
      | (refine ⟨(Nat.le_of_ble_eq_true rfl : _ ≤ lim), ?_⟩)))
    rfl
theorem countP_set {q : Int → Bool} {y : Int} (hy : q y = false) : ∀ {xs : List Int} {i : Nat} (h : i < xs.length), q xs[i] = true → (xs.set i y).countP q < xs.countP q
  | x :: xs, 0, _, hx => by
    have hx : q x = true := hx
    rw [List.set_cons_zero, List.countP_cons_of_neg (by rw [hy]; decide), List.countP_cons_of_pos hx]
    omega
  | x :: xs, i + 1, h, hx => by
    have := countP_set hy (xs := xs) (i := i) (by simpa using h) (by simpa using hx)
    rw [List.set_cons_succ]
    cases hq : q x with
    | true => rw [List.countP_cons_of_pos hq, List.countP_cons_of_pos hq]; omega
    | false => rw [List.countP_cons_of_neg (by rw [hq]; decide), List.countP_cons_of_neg (by rw [hq]; decide)]; exact this
/-- a row under way: -1 where nothing stands yet -/
structure Half (p : Int) (n : Nat) (F : List Int) : Prop where
  len : F.length = n
  lo : ∀ x ∈ F, -1 ≤ x ∧ x < p
theorem Half.at_ {p : Int} {n : Nat} {F : List Int} (h : Half p n F) {j : Nat} (hj : j < n) : -1 ≤ F[j]'(by rw [h.len]; exact hj) ∧ F[j]'(by rw [h.len]; exact hj) < p := h.lo _ (List.getElem_mem _)
theorem Half.set {p : Int} {n : Nat} {F : List Int} (h : Half p n F) {j : Nat} {x : Int} (hx : -1 ≤ x ∧ x < p) : Half p n (F.set j x) := by
  refine ⟨by rw [List.length_set]; exact h.len, fun y hy => ?_⟩
  rcases List.mem_or_eq_of_mem_set hy with z | z
  · exact h.lo y z
  · rw [z]; exact hx
def ShOk (C : Fn) : Prop := ∀ {p c : Int} {n : Nat} {l : List D}, PC p c → 0 < n → n ≤ 16 → Bg l → ∃ row l', C 19 [.lst true l, .int p, .int n, .int c] = some (iT row, [.lst true l']) ∧ Row p n row ∧ Bg l'
theorem lmul {k : Int} (h0 : 0 ≤ k) (h1 : k ≤ 1000) (x : Int) (o : Bool) : boD .mul (.lst o [.int x]) (.int k) = some (.lst true (iA (List.replicate k.toNat x))) := by
  show (if 0 ≤ k ∧ k ≤ 1000 ∧ ([D.int x] : List D).length ≤ 1000 then some (D.lst true (List.replicate k.toNat [D.int x]).flatten) else none) = _
  rw [if_pos ⟨h0, h1, by simp⟩, iA, List.map_replicate]
  congr 2
  generalize k.toNat = z
  induction z with
  | zero => rfl
  | succ z ih => rw [List.replicate_succ, List.flatten_cons, ih, List.replicate_succ]; rfl
theorem gcd_whole (n m : Nat) : Nat.gcd n (n * m) = n := Nat.gcd_eq_left (Nat.dvd_mul_right n m)
theorem short (C : Fn) (A : All C) (hG : GcOk C) {p c : Int} {n : Nat} {l : List D} (h : PC p c) (hn : 0 < n) (hn2 : n ≤ 16) (hb : Bg l) :
    ∃ d x', runF C m__law_short_row [.lst true l, .int p, .int n, .int c] = some (d, [x']) ∧ ∃ row l', d = iT row ∧ x' = .lst true l' ∧ Row p n row ∧ Bg l' := by
  have p1 := h.p1
  have p13 := h.p13
  have o0 := h.o0
  have o12 := h.o12
  have hm : (0 : Int) < (ord p c : Int) := by omega
  have hw : 0 < n * ord p c := Nat.mul_pos hn o0
  have hw2 : n * ord p c ≤ 16 * 12 := Nat.mul_le_mul hn2 o12
  refine w_runio (Q := fun d x' => ∃ row l', d = iT row ∧ x' = .lst true l' ∧ Row p n row ∧ Bg l') rfl (by decide) rfl ?_
  show wB C _ [some (.lst true l), some (.int p), some (.int n), some (.int c), none, none, none, none, none, none, none] _
  (repeat (first
    | refine w_bcons ?_ | refine w_asg ?_ | refine w_par ?_ | refine w_exp ?_ | refine w_ife ?_ | refine w_ret ?_ | refine w_bnil ?_ | refine w_brk ?_ | refine w_cnt ?_
    | refine w_con ?_ | refine w_bin ?_ | refine w_neg ?_ | refine w_not ?_ | refine w_and ?_ | refine w_or ?_ | refine w_ifx ?_ | refine w_cmp ?_ | refine w_chain ?_
    | refine w_anil ?_ | refine w_acons ?_ | refine w_tup ?_ | refine w_lst ?_ | refine w_sub ?_ | refine w_ono ?_ | refine w_oso ?_ | refine w_slice ?_ | refine w_blt ?_ | refine w_isi ?_
    | refine w_call ?_ | refine w_ckw ?_ | refine w_rvl ?_ | refine w_lrg ?_ | refine w_to ?_ | refine w_ft ?_ | refine w_it ?_ | refine w_rng ?_ | refine w_enu ?_ | refine w_comp ?_
    | refine w_tp ?_ | refine w_tnil ?_ | refine w_tcons ?_
    | refine w_var (d := _) rfl rfl ?_ | refine w_varO (d := _) rfl rfl ?_ | refine w_lnv (d := _) rfl rfl ?_ | refine w_sbv (d0 := _) rfl ?_ | refine w_cio (d0 := _) rfl ?_ | refine w_app (l0 := _) rfl ?_ | refine w_st (d0 := _) rfl ?_ | refine w_retv (d := _) rfl ?_
    | refine w_nm (Nat.le_of_ble_eq_true rfl) ?_
    | refine ex_some (o_add _ _) ?_ | refine ex_some (o_sub _ _) ?_ | refine ex_some rfl ?_ | refine ex_int ?_ | refine ex_lst ?_ | refine ex_sbv rfl rfl rfl ?_ | refine ex_st rfl rfl rfl ?_
    | (refine ⟨(Nat.le_of_ble_eq_true rfl : _ ≤ lim), ?_⟩)))
  refine ⟨_, A.pow h, ?_⟩
  (repeat (first
    | refine w_bcons ?_ | refine w_asg ?_ | refine w_par ?_ | refine w_exp ?_ | refine w_ife ?_ | refine w_ret ?_ | refine w_bnil ?_ | refine w_brk ?_ | refine w_cnt ?_
    | refine w_con ?_ | refine w_bin ?_ | refine w_neg ?_ | refine w_not ?_ | refine w_and ?_ | refine w_or ?_ | refine w_ifx ?_ | refine w_cmp ?_ | refine w_chain ?_
    | refine w_anil ?_ | refine w_acons ?_ | refine w_tup ?_ | refine w_lst ?_ | refine w_sub ?_ | refine w_ono ?_ | refine w_oso ?_ | refine w_slice ?_ | refine w_blt ?_ | refine w_isi ?_
    | refine w_call ?_ | refine w_ckw ?_ | refine w_rvl ?_ | refine w_lrg ?_ | refine w_to ?_ | refine w_ft ?_ | refine w_it ?_ | refine w_rng ?_ | refine w_enu ?_ | refine w_comp ?_
    | refine w_tp ?_ | refine w_tnil ?_ | refine w_tcons ?_
    | refine w_var (d := _) rfl rfl ?_ | refine w_varO (d := _) rfl rfl ?_ | refine w_lnv (d := _) rfl rfl ?_ | refine w_sbv (d0 := _) rfl ?_ | refine w_cio (d0 := _) rfl ?_ | refine w_app (l0 := _) rfl ?_ | refine w_st (d0 := _) rfl ?_ | refine w_retv (d := _) rfl ?_
    | refine w_nm (Nat.le_of_ble_eq_true rfl) ?_
    | refine ex_some (o_add _ _) ?_ | refine ex_some (o_sub _ _) ?_ | refine ex_some rfl ?_ | refine ex_int ?_ | refine ex_lst ?_ | refine ex_sbv rfl rfl rfl ?_ | refine ex_st rfl rfl rfl ?_
    | (refine ⟨(Nat.le_of_ble_eq_true rfl : _ ≤ lim), ?_⟩)))
  simp only [List.length_map, pw_len]
  refine ex_some (o_mulS (by omega) (by omega) (by omega) (by omega)) ?_
  rw [← Int.natCast_mul]
  generalize hW : n * ord p c = W at *
  (repeat (first
    | refine w_bcons ?_ | refine w_asg ?_ | refine w_par ?_ | refine w_exp ?_ | refine w_ife ?_ | refine w_ret ?_ | refine w_bnil ?_ | refine w_brk ?_ | refine w_cnt ?_
    | refine w_con ?_ | refine w_bin ?_ | refine w_neg ?_ | refine w_not ?_ | refine w_and ?_ | refine w_or ?_ | refine w_ifx ?_ | refine w_cmp ?_ | refine w_chain ?_
    | refine w_anil ?_ | refine w_acons ?_ | refine w_tup ?_ | refine w_lst ?_ | refine w_sub ?_ | refine w_ono ?_ | refine w_oso ?_ | refine w_slice ?_ | refine w_blt ?_ | refine w_isi ?_
    | refine w_call ?_ | refine w_ckw ?_ | refine w_rvl ?_ | refine w_lrg ?_ | refine w_to ?_ | refine w_ft ?_ | refine w_it ?_ | refine w_rng ?_ | refine w_enu ?_ | refine w_comp ?_
    | refine w_tp ?_ | refine w_tnil ?_ | refine w_tcons ?_
    | refine w_var (d := _) rfl rfl ?_ | refine w_varO (d := _) rfl rfl ?_ | refine w_lnv (d := _) rfl rfl ?_ | refine w_sbv (d0 := _) rfl ?_ | refine w_cio (d0 := _) rfl ?_ | refine w_app (l0 := _) rfl ?_ | refine w_st (d0 := _) rfl ?_ | refine w_retv (d := _) rfl ?_
    | refine w_nm (Nat.le_of_ble_eq_true rfl) ?_
    | refine ex_some (o_add _ _) ?_ | refine ex_some (o_sub _ _) ?_ | refine ex_some rfl ?_ | refine ex_int ?_ | refine ex_lst ?_ | refine ex_sbv rfl rfl rfl ?_ | refine ex_st rfl rfl rfl ?_
    | (refine ⟨(Nat.le_of_ble_eq_true rfl : _ ≤ lim), ?_⟩)))
  refine ⟨_, A.dv W hw (by omega), ?_⟩
  have hpwi : ∀ k : Int, itemD (.lst true (iA (pw p c))) (.int (k % (ord p c : Int))) = some (.int (ex p c k)) := fun k => by
    have k0 := Int.emod_nonneg k (Int.ne_of_gt hm)
    have k1 := Int.emod_lt_of_pos k hm
    rw [← pw_at h k (by rw [pw_len]; omega)]
    exact item_i (xs := pw p c) rfl k0 (by rw [pw_len]; exact k1)
  (repeat (first
    | refine w_bcons ?_ | refine w_asg ?_ | refine w_par ?_ | refine w_exp ?_ | refine w_ife ?_ | refine w_ret ?_ | refine w_bnil ?_ | refine w_brk ?_ | refine w_cnt ?_
    | refine w_con ?_ | refine w_bin ?_ | refine w_neg ?_ | refine w_not ?_ | refine w_and ?_ | refine w_or ?_ | refine w_ifx ?_ | refine w_cmp ?_ | refine w_chain ?_
    | refine w_anil ?_ | refine w_acons ?_ | refine w_tup ?_ | refine w_lst ?_ | refine w_sub ?_ | refine w_ono ?_ | refine w_oso ?_ | refine w_slice ?_ | refine w_blt ?_ | refine w_isi ?_
    | refine w_call ?_ | refine w_ckw ?_ | refine w_rvl ?_ | refine w_lrg ?_ | refine w_to ?_ | refine w_ft ?_ | refine w_it ?_ | refine w_rng ?_ | refine w_enu ?_ | refine w_comp ?_
    | refine w_tp ?_ | refine w_tnil ?_ | refine w_tcons ?_
    | refine w_var (d := _) rfl rfl ?_ | refine w_varO (d := _) rfl rfl ?_ | refine w_lnv (d := _) rfl rfl ?_ | refine w_sbv (d0 := _) rfl ?_ | refine w_cio (d0 := _) rfl ?_ | refine w_app (l0 := _) rfl ?_ | refine w_st (d0 := _) rfl ?_ | refine w_retv (d := _) rfl ?_
    | refine w_nm (Nat.le_of_ble_eq_true rfl) ?_
    | refine ex_some (o_add _ _) ?_ | refine ex_some (o_sub _ _) ?_ | refine ex_some rfl ?_ | refine ex_int ?_ | refine ex_lst ?_ | refine ex_sbv rfl rfl rfl ?_ | refine ex_st rfl rfl rfl ?_
    | (refine ⟨(Nat.le_of_ble_eq_true rfl : _ ≤ lim), ?_⟩)))
  rw [fzA_i]
  refine ⟨by rw [List.length_map]; have := dvs_len W; show _ ≤ 1000000; omega, wC_filter (isP fun d => decide (ex p c (d / (Nat.gcd n d.toNat : Int)) = 1)) (iD id) (fun d hd => ?_) ?_⟩
  · obtain ⟨x, hx, rfl⟩ := List.mem_map.mp hd
    have hx2 := dvs_mem.mp hx
    have hgx := hG n x.toNat (by omega)
    rw [Int.toNat_of_nonneg (by omega)] at hgx
    have hgp : 0 < Nat.gcd n x.toNat := Nat.gcd_pos_of_pos_left _ hn
    have hgl : Nat.gcd n x.toNat ≤ n := Nat.gcd_le_left _ hn
    refine w_nm (Nat.le_of_ble_eq_true rfl) ?_
    show wE C _ [some (.lst true l), some (.int p), some (.int n), some (.int c), some (.lst true (iA (pw p c))), some (.lst false (D.fzA (iA (dvs W)))), some (.int x), none, none, none, none] _
    rw [fzA_i]
    (repeat (first
      | refine w_bcons ?_ | refine w_asg ?_ | refine w_par ?_ | refine w_exp ?_ | refine w_ife ?_ | refine w_ret ?_ | refine w_bnil ?_ | refine w_brk ?_ | refine w_cnt ?_
      | refine w_con ?_ | refine w_bin ?_ | refine w_neg ?_ | refine w_not ?_ | refine w_and ?_ | refine w_or ?_ | refine w_ifx ?_ | refine w_cmp ?_ | refine w_chain ?_
      | refine w_anil ?_ | refine w_acons ?_ | refine w_tup ?_ | refine w_lst ?_ | refine w_sub ?_ | refine w_ono ?_ | refine w_oso ?_ | refine w_slice ?_ | refine w_blt ?_ | refine w_isi ?_
      | refine w_call ?_ | refine w_ckw ?_ | refine w_rvl ?_ | refine w_lrg ?_ | refine w_to ?_ | refine w_ft ?_ | refine w_it ?_ | refine w_rng ?_ | refine w_enu ?_ | refine w_comp ?_
      | refine w_tp ?_ | refine w_tnil ?_ | refine w_tcons ?_
      | refine w_var (d := _) rfl rfl ?_ | refine w_varO (d := _) rfl rfl ?_ | refine w_lnv (d := _) rfl rfl ?_ | refine w_sbv (d0 := _) rfl ?_ | refine w_cio (d0 := _) rfl ?_ | refine w_app (l0 := _) rfl ?_ | refine w_st (d0 := _) rfl ?_ | refine w_retv (d := _) rfl ?_
      | refine w_nm (Nat.le_of_ble_eq_true rfl) ?_
      | refine ex_some (o_add _ _) ?_ | refine ex_some (o_sub _ _) ?_ | refine ex_some rfl ?_ | refine ex_int ?_ | refine ex_lst ?_ | refine ex_sbv rfl rfl rfl ?_ | refine ex_st rfl rfl rfl ?_
      | (refine ⟨(Nat.le_of_ble_eq_true rfl : _ ≤ lim), ?_⟩)))
    refine ⟨_, hgx, ?_⟩
    refine ex_some (o_fdivS (by omega) (by omega)) ?_
    (repeat (first
      | refine w_bcons ?_ | refine w_asg ?_ | refine w_par ?_ | refine w_exp ?_ | refine w_ife ?_ | refine w_ret ?_ | refine w_bnil ?_ | refine w_brk ?_ | refine w_cnt ?_
      | refine w_con ?_ | refine w_bin ?_ | refine w_neg ?_ | refine w_not ?_ | refine w_and ?_ | refine w_or ?_ | refine w_ifx ?_ | refine w_cmp ?_ | refine w_chain ?_
      | refine w_anil ?_ | refine w_acons ?_ | refine w_tup ?_ | refine w_lst ?_ | refine w_sub ?_ | refine w_ono ?_ | refine w_oso ?_ | refine w_slice ?_ | refine w_blt ?_ | refine w_isi ?_
      | refine w_call ?_ | refine w_ckw ?_ | refine w_rvl ?_ | refine w_lrg ?_ | refine w_to ?_ | refine w_ft ?_ | refine w_it ?_ | refine w_rng ?_ | refine w_enu ?_ | refine w_comp ?_
      | refine w_tp ?_ | refine w_tnil ?_ | refine w_tcons ?_
      | refine w_var (d := _) rfl rfl ?_ | refine w_varO (d := _) rfl rfl ?_ | refine w_lnv (d := _) rfl rfl ?_ | refine w_sbv (d0 := _) rfl ?_ | refine w_cio (d0 := _) rfl ?_ | refine w_app (l0 := _) rfl ?_ | refine w_st (d0 := _) rfl ?_ | refine w_retv (d := _) rfl ?_
      | refine w_nm (Nat.le_of_ble_eq_true rfl) ?_
      | refine ex_some (o_add _ _) ?_ | refine ex_some (o_sub _ _) ?_ | refine ex_some rfl ?_ | refine ex_int ?_ | refine ex_lst ?_ | refine ex_sbv rfl rfl rfl ?_ | refine ex_st rfl rfl rfl ?_
      | (refine ⟨(Nat.le_of_ble_eq_true rfl : _ ≤ lim), ?_⟩)))
    simp only [List.length_map, pw_len]
    refine ex_some (o_mod hm) ?_
    refine ⟨_, _, rfl, hpwi _, rfl, ?_⟩
    (repeat (first
      | refine w_bcons ?_ | refine w_asg ?_ | refine w_par ?_ | refine w_exp ?_ | refine w_ife ?_ | refine w_ret ?_ | refine w_bnil ?_ | refine w_brk ?_ | refine w_cnt ?_
      | refine w_con ?_ | refine w_bin ?_ | refine w_neg ?_ | refine w_not ?_ | refine w_and ?_ | refine w_or ?_ | refine w_ifx ?_ | refine w_cmp ?_ | refine w_chain ?_
      | refine w_anil ?_ | refine w_acons ?_ | refine w_tup ?_ | refine w_lst ?_ | refine w_sub ?_ | refine w_ono ?_ | refine w_oso ?_ | refine w_slice ?_ | refine w_blt ?_ | refine w_isi ?_
      | refine w_call ?_ | refine w_ckw ?_ | refine w_rvl ?_ | refine w_lrg ?_ | refine w_to ?_ | refine w_ft ?_ | refine w_it ?_ | refine w_rng ?_ | refine w_enu ?_ | refine w_comp ?_
      | refine w_tp ?_ | refine w_tnil ?_ | refine w_tcons ?_
      | refine w_var (d := _) rfl rfl ?_ | refine w_varO (d := _) rfl rfl ?_ | refine w_lnv (d := _) rfl rfl ?_ | refine w_sbv (d0 := _) rfl ?_ | refine w_cio (d0 := _) rfl ?_ | refine w_app (l0 := _) rfl ?_ | refine w_st (d0 := _) rfl ?_ | refine w_retv (d := _) rfl ?_
      | refine w_nm (Nat.le_of_ble_eq_true rfl) ?_
      | refine ex_some (o_add _ _) ?_ | refine ex_some (o_sub _ _) ?_ | refine ex_some rfl ?_ | refine ex_int ?_ | refine ex_lst ?_ | refine ex_sbv rfl rfl rfl ?_ | refine ex_st rfl rfl rfl ?_
      | (refine ⟨(Nat.le_of_ble_eq_true rfl : _ ≤ lim), ?_⟩)))
    refine ⟨rfl, fun _ => ?_, fun _ => ?_⟩
    · show [_, _, _, _, _, some (D.lst false (iA (dvs W))), none, _, _, _, _] = [_, _, _, _, _, some (D.lst false (D.fzA (iA (dvs W)))), none, _, _, _, _]
      rw [fzA_i]
    · (repeat (first
        | refine w_bcons ?_ | refine w_asg ?_ | refine w_par ?_ | refine w_exp ?_ | refine w_ife ?_ | refine w_ret ?_ | refine w_bnil ?_ | refine w_brk ?_ | refine w_cnt ?_
        | refine w_con ?_ | refine w_bin ?_ | refine w_neg ?_ | refine w_not ?_ | refine w_and ?_ | refine w_or ?_ | refine w_ifx ?_ | refine w_cmp ?_ | refine w_chain ?_
        | refine w_anil ?_ | refine w_acons ?_ | refine w_tup ?_ | refine w_lst ?_ | refine w_sub ?_ | refine w_ono ?_ | refine w_oso ?_ | refine w_slice ?_ | refine w_blt ?_ | refine w_isi ?_
        | refine w_call ?_ | refine w_ckw ?_ | refine w_rvl ?_ | refine w_lrg ?_ | refine w_to ?_ | refine w_ft ?_ | refine w_it ?_ | refine w_rng ?_ | refine w_enu ?_ | refine w_comp ?_
        | refine w_tp ?_ | refine w_tnil ?_ | refine w_tcons ?_
        | refine w_var (d := _) rfl rfl ?_ | refine w_varO (d := _) rfl rfl ?_ | refine w_lnv (d := _) rfl rfl ?_ | refine w_sbv (d0 := _) rfl ?_ | refine w_cio (d0 := _) rfl ?_ | refine w_app (l0 := _) rfl ?_ | refine w_st (d0 := _) rfl ?_ | refine w_retv (d := _) rfl ?_
        | refine w_nm (Nat.le_of_ble_eq_true rfl) ?_
        | refine ex_some (o_add _ _) ?_ | refine ex_some (o_sub _ _) ?_ | refine ex_some rfl ?_ | refine ex_int ?_ | refine ex_lst ?_ | refine ex_sbv rfl rfl rfl ?_ | refine ex_st rfl rfl rfl ?_
        | (refine ⟨(Nat.le_of_ble_eq_true rfl : _ ≤ lim), ?_⟩)))
      refine ⟨rfl, ?_⟩
      show [_, _, _, _, _, some (D.lst false (iA (dvs W))), none, _, _, _, _] = [_, _, _, _, _, some (D.lst false (D.fzA (iA (dvs W)))), none, _, _, _, _]
      rw [fzA_i]
  · rw [isP_filter]
    have hWS : (W : Int) ∈ (dvs W).filter fun d => decide (ex p c (d / (Nat.gcd n d.toNat : Int)) = 1) := by
      rw [List.mem_filter, dvs_mem]
      refine ⟨⟨by omega, Int.le_refl _, Int.emod_self⟩, ?_⟩
      have e1 : Nat.gcd n (W : Int).toNat = n := by rw [Int.toNat_natCast, ← hW]; exact gcd_whole n _
      have e2 : (W : Int) / (n : Int) = (ord p c : Int) * 1 := by rw [← hW, Int.natCast_mul, Int.mul_one]; exact Int.mul_ediv_cancel_left _ (by omega)
      rw [e1, e2, ex_whole h]
      rfl
    have hSl : ((dvs W).filter fun d => decide (ex p c (d / (Nat.gcd n d.toNat : Int)) = 1)).length ≤ W := Nat.le_trans (List.length_filter_le _ _) (dvs_len W)
    have hSm : ∀ d ∈ ((dvs W).filter fun d => decide (ex p c (d / (Nat.gcd n d.toNat : Int)) = 1)), 1 ≤ d ∧ d ≤ W := fun d hd => by
      have := dvs_mem.mp (List.mem_filter.mp hd).1
      exact ⟨this.1, this.2.1⟩
    generalize ((dvs W).filter fun d => decide (ex p c (d / (Nat.gcd n d.toNat : Int)) = 1)) = S at hWS hSl hSm
    refine w_nm (Nat.le_of_ble_eq_true rfl) ?_
    show wB C _ [some (.lst true l), some (.int p), some (.int n), some (.int c), some (.lst true (iA (pw p c))), some (.lst true (iA S)), none, none, none, none, none] _
    (repeat (first
      | refine w_bcons ?_ | refine w_asg ?_ | refine w_par ?_ | refine w_exp ?_ | refine w_ife ?_ | refine w_ret ?_ | refine w_bnil ?_ | refine w_brk ?_ | refine w_cnt ?_
      | refine w_con ?_ | refine w_bin ?_ | refine w_neg ?_ | refine w_not ?_ | refine w_and ?_ | refine w_or ?_ | refine w_ifx ?_ | refine w_cmp ?_ | refine w_chain ?_
      | refine w_anil ?_ | refine w_acons ?_ | refine w_tup ?_ | refine w_lst ?_ | refine w_sub ?_ | refine w_ono ?_ | refine w_oso ?_ | refine w_slice ?_ | refine w_blt ?_ | refine w_isi ?_
      | refine w_call ?_ | refine w_ckw ?_ | refine w_rvl ?_ | refine w_lrg ?_ | refine w_to ?_ | refine w_ft ?_ | refine w_it ?_ | refine w_rng ?_ | refine w_enu ?_ | refine w_comp ?_
      | refine w_tp ?_ | refine w_tnil ?_ | refine w_tcons ?_
      | refine w_var (d := _) rfl rfl ?_ | refine w_varO (d := _) rfl rfl ?_ | refine w_lnv (d := _) rfl rfl ?_ | refine w_sbv (d0 := _) rfl ?_ | refine w_cio (d0 := _) rfl ?_ | refine w_app (l0 := _) rfl ?_ | refine w_st (d0 := _) rfl ?_ | refine w_retv (d := _) rfl ?_
      | refine w_nm (Nat.le_of_ble_eq_true rfl) ?_
      | refine ex_some (o_add _ _) ?_ | refine ex_some (o_sub _ _) ?_ | refine ex_some rfl ?_ | refine ex_int ?_ | refine ex_lst ?_ | refine ex_sbv rfl rfl rfl ?_ | refine ex_st rfl rfl rfl ?_
      | (refine ⟨(Nat.le_of_ble_eq_true rfl : _ ≤ lim), ?_⟩)))
    obtain ⟨z, l1, e1, hz, g1⟩ := A.pick l (iA S) hb (by
      intro z
      have := List.map_eq_nil_iff.mp z
      rw [this] at hWS
      cases hWS) (by rw [List.length_map]; omega) (fun d hd => by
      obtain ⟨x, _, rfl⟩ := List.mem_map.mp hd
      rfl)
    obtain ⟨d, hd, rfl⟩ := List.mem_map.mp hz
    have hd2 := hSm d hd
    refine ⟨_, _, _, rfl, by rw [show D.fzA [D.fz (.lst true (iA S))] = [.lst false (iA S)] from by show [D.lst false (D.fzA (iA S))] = _; rw [fzA_i]]; exact e1, ?_⟩
    (repeat (first
      | refine w_bcons ?_ | refine w_asg ?_ | refine w_par ?_ | refine w_exp ?_ | refine w_ife ?_ | refine w_ret ?_ | refine w_bnil ?_ | refine w_brk ?_ | refine w_cnt ?_
      | refine w_con ?_ | refine w_bin ?_ | refine w_neg ?_ | refine w_not ?_ | refine w_and ?_ | refine w_or ?_ | refine w_ifx ?_ | refine w_cmp ?_ | refine w_chain ?_
      | refine w_anil ?_ | refine w_acons ?_ | refine w_tup ?_ | refine w_lst ?_ | refine w_sub ?_ | refine w_ono ?_ | refine w_oso ?_ | refine w_slice ?_ | refine w_blt ?_ | refine w_isi ?_
      | refine w_call ?_ | refine w_ckw ?_ | refine w_rvl ?_ | refine w_lrg ?_ | refine w_to ?_ | refine w_ft ?_ | refine w_it ?_ | refine w_rng ?_ | refine w_enu ?_ | refine w_comp ?_
      | refine w_tp ?_ | refine w_tnil ?_ | refine w_tcons ?_
      | refine w_var (d := _) rfl rfl ?_ | refine w_varO (d := _) rfl rfl ?_ | refine w_lnv (d := _) rfl rfl ?_ | refine w_sbv (d0 := _) rfl ?_ | refine w_cio (d0 := _) rfl ?_ | refine w_app (l0 := _) rfl ?_ | refine w_st (d0 := _) rfl ?_ | refine w_retv (d := _) rfl ?_
      | refine w_nm (Nat.le_of_ble_eq_true rfl) ?_
      | refine ex_some (o_add _ _) ?_ | refine ex_some (o_sub _ _) ?_ | refine ex_some rfl ?_ | refine ex_int ?_ | refine ex_lst ?_ | refine ex_sbv rfl rfl rfl ?_ | refine ex_st rfl rfl rfl ?_
      | (refine ⟨(Nat.le_of_ble_eq_true rfl : _ ≤ lim), ?_⟩)))
    refine ex_some (lmul (x := -1) (k := n) (by omega) (by omega) false) ?_
    rw [Int.toNat_natCast]
    (repeat (first
      | refine w_bcons ?_ | refine w_asg ?_ | refine w_par ?_ | refine w_exp ?_ | refine w_ife ?_ | refine w_ret ?_ | refine w_bnil ?_ | refine w_brk ?_ | refine w_cnt ?_
      | refine w_con ?_ | refine w_bin ?_ | refine w_neg ?_ | refine w_not ?_ | refine w_and ?_ | refine w_or ?_ | refine w_ifx ?_ | refine w_cmp ?_ | refine w_chain ?_
      | refine w_anil ?_ | refine w_acons ?_ | refine w_tup ?_ | refine w_lst ?_ | refine w_sub ?_ | refine w_ono ?_ | refine w_oso ?_ | refine w_slice ?_ | refine w_blt ?_ | refine w_isi ?_
      | refine w_call ?_ | refine w_ckw ?_ | refine w_rvl ?_ | refine w_lrg ?_ | refine w_to ?_ | refine w_ft ?_ | refine w_it ?_ | refine w_rng ?_ | refine w_enu ?_ | refine w_comp ?_
      | refine w_tp ?_ | refine w_tnil ?_ | refine w_tcons ?_
      | refine w_var (d := _) rfl rfl ?_ | refine w_varO (d := _) rfl rfl ?_ | refine w_lnv (d := _) rfl rfl ?_ | refine w_sbv (d0 := _) rfl ?_ | refine w_cio (d0 := _) rfl ?_ | refine w_app (l0 := _) rfl ?_ | refine w_st (d0 := _) rfl ?_ | refine w_retv (d := _) rfl ?_
      | refine w_nm (Nat.le_of_ble_eq_true rfl) ?_
      | refine ex_some (o_add _ _) ?_ | refine ex_some (o_sub _ _) ?_ | refine ex_some rfl ?_ | refine ex_int ?_ | refine ex_lst ?_ | refine ex_sbv rfl rfl rfl ?_ | refine ex_st rfl rfl rfl ?_
      | (refine ⟨(Nat.le_of_ble_eq_true rfl : _ ≤ lim), ?_⟩)))
    have hF0 : Half p n (List.replicate n (-1)) := ⟨List.length_replicate, fun x hx => by rw [List.eq_of_mem_replicate hx]; omega⟩
    refine w_cut (fun ρ => ∃ l F, ρ = [some (.lst true l), some (.int p), some (.int n), some (.int c), some (.lst true (iA (pw p c))), some (.lst false (iA S)), some (.int d), some (.lst true (iA F)), none, none, none] ∧ Bg l ∧ Row p n F) ?_ fun ρ ⟨l2, F, eρ, g2, hF⟩ => ?_
    · refine w_for ?_
      (repeat (first
        | refine w_bcons ?_ | refine w_asg ?_ | refine w_par ?_ | refine w_exp ?_ | refine w_ife ?_ | refine w_ret ?_ | refine w_bnil ?_ | refine w_brk ?_ | refine w_cnt ?_
        | refine w_con ?_ | refine w_bin ?_ | refine w_neg ?_ | refine w_not ?_ | refine w_and ?_ | refine w_or ?_ | refine w_ifx ?_ | refine w_cmp ?_ | refine w_chain ?_
        | refine w_anil ?_ | refine w_acons ?_ | refine w_tup ?_ | refine w_lst ?_ | refine w_sub ?_ | refine w_ono ?_ | refine w_oso ?_ | refine w_slice ?_ | refine w_blt ?_ | refine w_isi ?_
        | refine w_call ?_ | refine w_ckw ?_ | refine w_rvl ?_ | refine w_lrg ?_ | refine w_to ?_ | refine w_ft ?_ | refine w_it ?_ | refine w_rng ?_ | refine w_enu ?_ | refine w_comp ?_
        | refine w_tp ?_ | refine w_tnil ?_ | refine w_tcons ?_
        | refine w_var (d := _) rfl rfl ?_ | refine w_varO (d := _) rfl rfl ?_ | refine w_lnv (d := _) rfl rfl ?_ | refine w_sbv (d0 := _) rfl ?_ | refine w_cio (d0 := _) rfl ?_ | refine w_app (l0 := _) rfl ?_ | refine w_st (d0 := _) rfl ?_ | refine w_retv (d := _) rfl ?_
        | refine w_nm (Nat.le_of_ble_eq_true rfl) ?_
        | refine ex_some (o_add _ _) ?_ | refine ex_some (o_sub _ _) ?_ | refine ex_some rfl ?_ | refine ex_int ?_ | refine ex_lst ?_ | refine ex_sbv rfl rfl rfl ?_ | refine ex_st rfl rfl rfl ?_
        | (refine ⟨(Nat.le_of_ble_eq_true rfl : _ ≤ lim), ?_⟩)))
      refine ⟨sm62 (by omega), ?_⟩
      rw [Int.sub_zero, Int.toNat_natCast]
      refine ⟨fun k ρ => ∃ l F y8 y9 y10, ρ = [some (.lst true l), some (.int p), some (.int n), some (.int c), some (.lst true (iA (pw p c))), some (.lst false (iA S)), some (.int d), some (.lst true (iA F)), y8, y9, y10] ∧ Bg l ∧ Half p n F ∧ ∀ j (hj : j < F.length), j < k → 0 ≤ F[j], ⟨l1, _, none, none, none, ?_, g1, hF0, fun j _ hj => (by omega)⟩, fun k dd ρ hdk ⟨l2, F, y8, y9, y10, eρ, g2, hF, hI⟩ => ?_, fun ρ ⟨l2, F, y8, y9, y10, eρ, g2, hF, hI⟩ => ?_⟩
      · show [_, _, _, _, _, some (D.lst false (D.fzA (iA S))), _, _, _, _, _] = _
        rw [fzA_i]
      · subst eρ
        obtain ⟨hk, rfl⟩ := intsD_get hdk
        have hFl := hF.len
        refine w_nm (Nat.le_of_ble_eq_true rfl) ?_
        rw [Int.zero_add]
        show wB C _ [some (.lst true l2), some (.int p), some (.int n), some (.int c), some (.lst true (iA (pw p c))), some (.lst false (iA S)), some (.int d), some (.lst true (iA F)), some (.int k), none, none] _
        have hat : ∀ (F : List Int) (a : Int), F.length = n → 0 ≤ a → a < n → ∀ h, itemD (.lst true (iA F)) (.int a) = some (.int (F[a.toNat]'h)) := fun F a hl h0 h1 _ => item_i (xs := F) rfl h0 (by omega)
        refine w_then (fun ρ => ∃ l x, ρ = [some (.lst true l), some (.int p), some (.int n), some (.int c), some (.lst true (iA (pw p c))), some (.lst false (iA S)), some (.int d), some (.lst true (iA F)), some (.int k), some (.int k), some (.int x)] ∧ Bg l ∧ 0 ≤ x ∧ x < p) ?_ fun ρ ⟨l3, x, eρ, g3, x0, x1⟩ => ?_
        · (repeat (first
            | refine w_bcons ?_ | refine w_asg ?_ | refine w_par ?_ | refine w_exp ?_ | refine w_ife ?_ | refine w_ret ?_ | refine w_bnil ?_ | refine w_brk ?_ | refine w_cnt ?_
            | refine w_con ?_ | refine w_bin ?_ | refine w_neg ?_ | refine w_not ?_ | refine w_and ?_ | refine w_or ?_ | refine w_ifx ?_ | refine w_cmp ?_ | refine w_chain ?_
            | refine w_anil ?_ | refine w_acons ?_ | refine w_tup ?_ | refine w_lst ?_ | refine w_sub ?_ | refine w_ono ?_ | refine w_oso ?_ | refine w_slice ?_ | refine w_blt ?_ | refine w_isi ?_
            | refine w_call ?_ | refine w_ckw ?_ | refine w_rvl ?_ | refine w_lrg ?_ | refine w_to ?_ | refine w_ft ?_ | refine w_it ?_ | refine w_rng ?_ | refine w_enu ?_ | refine w_comp ?_
            | refine w_tp ?_ | refine w_tnil ?_ | refine w_tcons ?_
            | refine w_var (d := _) rfl rfl ?_ | refine w_varO (d := _) rfl rfl ?_ | refine w_lnv (d := _) rfl rfl ?_ | refine w_sbv (d0 := _) rfl ?_ | refine w_cio (d0 := _) rfl ?_ | refine w_app (l0 := _) rfl ?_ | refine w_st (d0 := _) rfl ?_ | refine w_retv (d := _) rfl ?_
            | refine w_nm (Nat.le_of_ble_eq_true rfl) ?_
            | refine ex_some (o_add _ _) ?_ | refine ex_some (o_sub _ _) ?_ | refine ex_some rfl ?_ | refine ex_int ?_ | refine ex_lst ?_ | refine ex_sbv rfl rfl rfl ?_ | refine ex_st rfl rfl rfl ?_
            | (refine ⟨(Nat.le_of_ble_eq_true rfl : _ ≤ lim), ?_⟩)))
          refine ⟨_, _, rfl, hat F k hFl (by omega) (by omega) (by omega), rfl, ?_⟩
          (repeat (first
            | refine w_bcons ?_ | refine w_asg ?_ | refine w_par ?_ | refine w_exp ?_ | refine w_ife ?_ | refine w_ret ?_ | refine w_bnil ?_ | refine w_brk ?_ | refine w_cnt ?_
            | refine w_con ?_ | refine w_bin ?_ | refine w_neg ?_ | refine w_not ?_ | refine w_and ?_ | refine w_or ?_ | refine w_ifx ?_ | refine w_cmp ?_ | refine w_chain ?_
            | refine w_anil ?_ | refine w_acons ?_ | refine w_tup ?_ | refine w_lst ?_ | refine w_sub ?_ | refine w_ono ?_ | refine w_oso ?_ | refine w_slice ?_ | refine w_blt ?_ | refine w_isi ?_
            | refine w_call ?_ | refine w_ckw ?_ | refine w_rvl ?_ | refine w_lrg ?_ | refine w_to ?_ | refine w_ft ?_ | refine w_it ?_ | refine w_rng ?_ | refine w_enu ?_ | refine w_comp ?_
            | refine w_tp ?_ | refine w_tnil ?_ | refine w_tcons ?_
            | refine w_var (d := _) rfl rfl ?_ | refine w_varO (d := _) rfl rfl ?_ | refine w_lnv (d := _) rfl rfl ?_ | refine w_sbv (d0 := _) rfl ?_ | refine w_cio (d0 := _) rfl ?_ | refine w_app (l0 := _) rfl ?_ | refine w_st (d0 := _) rfl ?_ | refine w_retv (d := _) rfl ?_
            | refine w_nm (Nat.le_of_ble_eq_true rfl) ?_
            | refine ex_some (o_add _ _) ?_ | refine ex_some (o_sub _ _) ?_ | refine ex_some rfl ?_ | refine ex_int ?_ | refine ex_lst ?_ | refine ex_sbv rfl rfl rfl ?_ | refine ex_st rfl rfl rfl ?_
            | (refine ⟨(Nat.le_of_ble_eq_true rfl : _ ≤ lim), ?_⟩)))
          refine ex_dec (fun hz => ?_) (fun hz => ?_)
          · (repeat (first
              | refine w_bcons ?_ | refine w_asg ?_ | refine w_par ?_ | refine w_exp ?_ | refine w_ife ?_ | refine w_ret ?_ | refine w_bnil ?_ | refine w_brk ?_ | refine w_cnt ?_
              | refine w_con ?_ | refine w_bin ?_ | refine w_neg ?_ | refine w_not ?_ | refine w_and ?_ | refine w_or ?_ | refine w_ifx ?_ | refine w_cmp ?_ | refine w_chain ?_
              | refine w_anil ?_ | refine w_acons ?_ | refine w_tup ?_ | refine w_lst ?_ | refine w_sub ?_ | refine w_ono ?_ | refine w_oso ?_ | refine w_slice ?_ | refine w_blt ?_ | refine w_isi ?_
              | refine w_call ?_ | refine w_ckw ?_ | refine w_rvl ?_ | refine w_lrg ?_ | refine w_to ?_ | refine w_ft ?_ | refine w_it ?_ | refine w_rng ?_ | refine w_enu ?_ | refine w_comp ?_
              | refine w_tp ?_ | refine w_tnil ?_ | refine w_tcons ?_
              | refine w_var (d := _) rfl rfl ?_ | refine w_varO (d := _) rfl rfl ?_ | refine w_lnv (d := _) rfl rfl ?_ | refine w_sbv (d0 := _) rfl ?_ | refine w_cio (d0 := _) rfl ?_ | refine w_app (l0 := _) rfl ?_ | refine w_st (d0 := _) rfl ?_ | refine w_retv (d := _) rfl ?_
              | refine w_nm (Nat.le_of_ble_eq_true rfl) ?_
              | refine ex_some (o_add _ _) ?_ | refine ex_some (o_sub _ _) ?_ | refine ex_some rfl ?_ | refine ex_int ?_ | refine ex_lst ?_ | refine ex_sbv rfl rfl rfl ?_ | refine ex_st rfl rfl rfl ?_
              | (refine ⟨(Nat.le_of_ble_eq_true rfl : _ ≤ lim), ?_⟩)))
            obtain ⟨r, l3, e3, q1, q2, g3⟩ := A.draw l2 p g2 (by omega) (by omega)
            refine ⟨_, _, _, rfl, e3, ?_⟩
            (repeat (first
              | refine w_bcons ?_ | refine w_asg ?_ | refine w_par ?_ | refine w_exp ?_ | refine w_ife ?_ | refine w_ret ?_ | refine w_bnil ?_ | refine w_brk ?_ | refine w_cnt ?_
              | refine w_con ?_ | refine w_bin ?_ | refine w_neg ?_ | refine w_not ?_ | refine w_and ?_ | refine w_or ?_ | refine w_ifx ?_ | refine w_cmp ?_ | refine w_chain ?_
              | refine w_anil ?_ | refine w_acons ?_ | refine w_tup ?_ | refine w_lst ?_ | refine w_sub ?_ | refine w_ono ?_ | refine w_oso ?_ | refine w_slice ?_ | refine w_blt ?_ | refine w_isi ?_
              | refine w_call ?_ | refine w_ckw ?_ | refine w_rvl ?_ | refine w_lrg ?_ | refine w_to ?_ | refine w_ft ?_ | refine w_it ?_ | refine w_rng ?_ | refine w_enu ?_ | refine w_comp ?_
              | refine w_tp ?_ | refine w_tnil ?_ | refine w_tcons ?_
              | refine w_var (d := _) rfl rfl ?_ | refine w_varO (d := _) rfl rfl ?_ | refine w_lnv (d := _) rfl rfl ?_ | refine w_sbv (d0 := _) rfl ?_ | refine w_cio (d0 := _) rfl ?_ | refine w_app (l0 := _) rfl ?_ | refine w_st (d0 := _) rfl ?_ | refine w_retv (d := _) rfl ?_
              | refine w_nm (Nat.le_of_ble_eq_true rfl) ?_
              | refine ex_some (o_add _ _) ?_ | refine ex_some (o_sub _ _) ?_ | refine ex_some rfl ?_ | refine ex_int ?_ | refine ex_lst ?_ | refine ex_sbv rfl rfl rfl ?_ | refine ex_st rfl rfl rfl ?_
              | (refine ⟨(Nat.le_of_ble_eq_true rfl : _ ≤ lim), ?_⟩)))
            exact ⟨rfl, l3, r, rfl, g3, q1, q2⟩
          · (repeat (first
              | refine w_bcons ?_ | refine w_asg ?_ | refine w_par ?_ | refine w_exp ?_ | refine w_ife ?_ | refine w_ret ?_ | refine w_bnil ?_ | refine w_brk ?_ | refine w_cnt ?_
              | refine w_con ?_ | refine w_bin ?_ | refine w_neg ?_ | refine w_not ?_ | refine w_and ?_ | refine w_or ?_ | refine w_ifx ?_ | refine w_cmp ?_ | refine w_chain ?_
              | refine w_anil ?_ | refine w_acons ?_ | refine w_tup ?_ | refine w_lst ?_ | refine w_sub ?_ | refine w_ono ?_ | refine w_oso ?_ | refine w_slice ?_ | refine w_blt ?_ | refine w_isi ?_
              | refine w_call ?_ | refine w_ckw ?_ | refine w_rvl ?_ | refine w_lrg ?_ | refine w_to ?_ | refine w_ft ?_ | refine w_it ?_ | refine w_rng ?_ | refine w_enu ?_ | refine w_comp ?_
              | refine w_tp ?_ | refine w_tnil ?_ | refine w_tcons ?_
              | refine w_var (d := _) rfl rfl ?_ | refine w_varO (d := _) rfl rfl ?_ | refine w_lnv (d := _) rfl rfl ?_ | refine w_sbv (d0 := _) rfl ?_ | refine w_cio (d0 := _) rfl ?_ | refine w_app (l0 := _) rfl ?_ | refine w_st (d0 := _) rfl ?_ | refine w_retv (d := _) rfl ?_
              | refine w_nm (Nat.le_of_ble_eq_true rfl) ?_
              | refine ex_some (o_add _ _) ?_ | refine ex_some (o_sub _ _) ?_ | refine ex_some rfl ?_ | refine ex_int ?_ | refine ex_lst ?_ | refine ex_sbv rfl rfl rfl ?_ | refine ex_st rfl rfl rfl ?_
              | (refine ⟨(Nat.le_of_ble_eq_true rfl : _ ≤ lim), ?_⟩)))
            exact ⟨rfl, l2, 0, rfl, g2, by omega, by omega⟩
        · subst eρ
          refine w_then (fun ρ => ∃ F a x, ρ = [some (.lst true l3), some (.int p), some (.int n), some (.int c), some (.lst true (iA (pw p c))), some (.lst false (iA S)), some (.int d), some (.lst true (iA F)), some (.int k), some (.int a), some (.int x)] ∧ Half p n F ∧ ∀ j (hj : j < F.length), j < k + 1 → 0 ≤ F[j]) ?_ fun ρ ⟨F, a, x, eρ, hF, hI⟩ => ?_
          · refine w_whl (fun m ρ => ∃ F a x, ρ = [some (.lst true l3), some (.int p), some (.int n), some (.int c), some (.lst true (iA (pw p c))), some (.lst false (iA S)), some (.int d), some (.lst true (iA F)), some (.int k), some (.int a), some (.int x)] ∧ Half p n F ∧ 0 ≤ a ∧ a < n ∧ 0 ≤ x ∧ x < p ∧ (∀ j (hj : j < F.length), j < k → 0 ≤ F[j]) ∧ (a = k ∨ ∀ hk : k < F.length, 0 ≤ F[k]) ∧ m = F.countP fun z => decide (z < 0))
              ⟨F.countP fun z => decide (z < 0), by have := List.countP_le_length (p := fun z : Int => decide (z < 0)) (l := F); show _ < 100000; omega, F, k, x, rfl, hF, by omega, by omega, x0, x1, hI, .inl rfl, rfl⟩ fun m ρ ⟨F, a, x, eρ, hF, a0, a1, x0, x1, hI, hK, em⟩ => ?_
            subst eρ em
            have hFl := hF.len
            have haF : a.toNat < F.length := by omega
            show wE C _ [some (.lst true l3), some (.int p), some (.int n), some (.int c), some (.lst true (iA (pw p c))), some (.lst false (iA S)), some (.int d), some (.lst true (iA F)), some (.int k), some (.int a), some (.int x)] _
            (repeat (first
              | refine w_bcons ?_ | refine w_asg ?_ | refine w_par ?_ | refine w_exp ?_ | refine w_ife ?_ | refine w_ret ?_ | refine w_bnil ?_ | refine w_brk ?_ | refine w_cnt ?_
              | refine w_con ?_ | refine w_bin ?_ | refine w_neg ?_ | refine w_not ?_ | refine w_and ?_ | refine w_or ?_ | refine w_ifx ?_ | refine w_cmp ?_ | refine w_chain ?_
              | refine w_anil ?_ | refine w_acons ?_ | refine w_tup ?_ | refine w_lst ?_ | refine w_sub ?_ | refine w_ono ?_ | refine w_oso ?_ | refine w_slice ?_ | refine w_blt ?_ | refine w_isi ?_
              | refine w_call ?_ | refine w_ckw ?_ | refine w_rvl ?_ | refine w_lrg ?_ | refine w_to ?_ | refine w_ft ?_ | refine w_it ?_ | refine w_rng ?_ | refine w_enu ?_ | refine w_comp ?_
              | refine w_tp ?_ | refine w_tnil ?_ | refine w_tcons ?_
              | refine w_var (d := _) rfl rfl ?_ | refine w_varO (d := _) rfl rfl ?_ | refine w_lnv (d := _) rfl rfl ?_ | refine w_sbv (d0 := _) rfl ?_ | refine w_cio (d0 := _) rfl ?_ | refine w_app (l0 := _) rfl ?_ | refine w_st (d0 := _) rfl ?_ | refine w_retv (d := _) rfl ?_
              | refine w_nm (Nat.le_of_ble_eq_true rfl) ?_
              | refine ex_some (o_add _ _) ?_ | refine ex_some (o_sub _ _) ?_ | refine ex_some rfl ?_ | refine ex_int ?_ | refine ex_lst ?_ | refine ex_sbv rfl rfl rfl ?_ | refine ex_st rfl rfl rfl ?_
              | (refine ⟨(Nat.le_of_ble_eq_true rfl : _ ≤ lim), ?_⟩)))
            refine ⟨_, _, rfl, hat F a hFl a0 a1 haF, rfl, ?_⟩
            (repeat (first
              | refine w_bcons ?_ | refine w_asg ?_ | refine w_par ?_ | refine w_exp ?_ | refine w_ife ?_ | refine w_ret ?_ | refine w_bnil ?_ | refine w_brk ?_ | refine w_cnt ?_
              | refine w_con ?_ | refine w_bin ?_ | refine w_neg ?_ | refine w_not ?_ | refine w_and ?_ | refine w_or ?_ | refine w_ifx ?_ | refine w_cmp ?_ | refine w_chain ?_
              | refine w_anil ?_ | refine w_acons ?_ | refine w_tup ?_ | refine w_lst ?_ | refine w_sub ?_ | refine w_ono ?_ | refine w_oso ?_ | refine w_slice ?_ | refine w_blt ?_ | refine w_isi ?_
              | refine w_call ?_ | refine w_ckw ?_ | refine w_rvl ?_ | refine w_lrg ?_ | refine w_to ?_ | refine w_ft ?_ | refine w_it ?_ | refine w_rng ?_ | refine w_enu ?_ | refine w_comp ?_
              | refine w_tp ?_ | refine w_tnil ?_ | refine w_tcons ?_
              | refine w_var (d := _) rfl rfl ?_ | refine w_varO (d := _) rfl rfl ?_ | refine w_lnv (d := _) rfl rfl ?_ | refine w_sbv (d0 := _) rfl ?_ | refine w_cio (d0 := _) rfl ?_ | refine w_app (l0 := _) rfl ?_ | refine w_st (d0 := _) rfl ?_ | refine w_retv (d := _) rfl ?_
              | refine w_nm (Nat.le_of_ble_eq_true rfl) ?_
              | refine ex_some (o_add _ _) ?_ | refine ex_some (o_sub _ _) ?_ | refine ex_some rfl ?_ | refine ex_int ?_ | refine ex_lst ?_ | refine ex_sbv rfl rfl rfl ?_ | refine ex_st rfl rfl rfl ?_
              | (refine ⟨(Nat.le_of_ble_eq_true rfl : _ ≤ lim), ?_⟩)))
            by_cases hz : F[a.toNat] < 0
            · refine ⟨true, by simp [hz], fun h => (nomatch h), fun _ => ?_⟩
              have hix : L2.ixN (iA F).length a = some a.toNat := by
                rw [List.length_map]
                have := ixN_nat (n := F.length) (k := a.toNat) haF
                rw [Int.toNat_of_nonneg a0] at this
                exact this
              (repeat (first
                | refine w_bcons ?_ | refine w_asg ?_ | refine w_par ?_ | refine w_exp ?_ | refine w_ife ?_ | refine w_ret ?_ | refine w_bnil ?_ | refine w_brk ?_ | refine w_cnt ?_
                | refine w_con ?_ | refine w_bin ?_ | refine w_neg ?_ | refine w_not ?_ | refine w_and ?_ | refine w_or ?_ | refine w_ifx ?_ | refine w_cmp ?_ | refine w_chain ?_
                | refine w_anil ?_ | refine w_acons ?_ | refine w_tup ?_ | refine w_lst ?_ | refine w_sub ?_ | refine w_ono ?_ | refine w_oso ?_ | refine w_slice ?_ | refine w_blt ?_ | refine w_isi ?_
                | refine w_call ?_ | refine w_ckw ?_ | refine w_rvl ?_ | refine w_lrg ?_ | refine w_to ?_ | refine w_ft ?_ | refine w_it ?_ | refine w_rng ?_ | refine w_enu ?_ | refine w_comp ?_
                | refine w_tp ?_ | refine w_tnil ?_ | refine w_tcons ?_
                | refine w_var (d := _) rfl rfl ?_ | refine w_varO (d := _) rfl rfl ?_ | refine w_lnv (d := _) rfl rfl ?_ | refine w_sbv (d0 := _) rfl ?_ | refine w_cio (d0 := _) rfl ?_ | refine w_app (l0 := _) rfl ?_ | refine w_st (d0 := _) rfl ?_ | refine w_retv (d := _) rfl ?_
                | refine w_nm (Nat.le_of_ble_eq_true rfl) ?_
                | refine ex_some (o_add _ _) ?_ | refine ex_some (o_sub _ _) ?_ | refine ex_some rfl ?_ | refine ex_int ?_ | refine ex_lst ?_ | refine ex_sbv rfl rfl rfl ?_ | refine ex_st rfl rfl rfl ?_
                | (refine ⟨(Nat.le_of_ble_eq_true rfl : _ ≤ lim), ?_⟩)))
              refine ⟨_, _, _, rfl, rfl, hix, ?_⟩
              rw [set_iA]
              have hcnt := countP_set (q := fun z : Int => decide (z < 0)) (y := x) (by simp; omega) haF (by simp [hz])
              have hF2 : Half p n (F.set a.toNat x) := hF.set ⟨by omega, x1⟩
              have hI2 : ∀ j (hj : j < (F.set a.toNat x).length), j < k → 0 ≤ (F.set a.toNat x)[j] := fun j hj hjk => by
                rw [List.getElem_set]
                split
                · exact x0
                · exact hI j _ hjk
              have hK2 : ∀ hk : k < (F.set a.toNat x).length, 0 ≤ (F.set a.toNat x)[k] := fun hk => by
                rw [List.getElem_set]
                split
                · exact x0
                · rename_i hne
                  rcases hK with z | z
                  · exact absurd (by omega) hne
                  · exact z _
              have e0 := ex_nonneg h ((a + d) / (n : Int))
              have e1 := ex_lt h ((a + d) / (n : Int))
              generalize F.set a.toNat x = F' at hcnt hF2 hI2 hK2
              (repeat (first
                | refine w_bcons ?_ | refine w_asg ?_ | refine w_par ?_ | refine w_exp ?_ | refine w_ife ?_ | refine w_ret ?_ | refine w_bnil ?_ | refine w_brk ?_ | refine w_cnt ?_
                | refine w_con ?_ | refine w_bin ?_ | refine w_neg ?_ | refine w_not ?_ | refine w_and ?_ | refine w_or ?_ | refine w_ifx ?_ | refine w_cmp ?_ | refine w_chain ?_
                | refine w_anil ?_ | refine w_acons ?_ | refine w_tup ?_ | refine w_lst ?_ | refine w_sub ?_ | refine w_ono ?_ | refine w_oso ?_ | refine w_slice ?_ | refine w_blt ?_ | refine w_isi ?_
                | refine w_call ?_ | refine w_ckw ?_ | refine w_rvl ?_ | refine w_lrg ?_ | refine w_to ?_ | refine w_ft ?_ | refine w_it ?_ | refine w_rng ?_ | refine w_enu ?_ | refine w_comp ?_
                | refine w_tp ?_ | refine w_tnil ?_ | refine w_tcons ?_
                | refine w_var (d := _) rfl rfl ?_ | refine w_varO (d := _) rfl rfl ?_ | refine w_lnv (d := _) rfl rfl ?_ | refine w_sbv (d0 := _) rfl ?_ | refine w_cio (d0 := _) rfl ?_ | refine w_app (l0 := _) rfl ?_ | refine w_st (d0 := _) rfl ?_ | refine w_retv (d := _) rfl ?_
                | refine w_nm (Nat.le_of_ble_eq_true rfl) ?_
                | refine ex_some (o_add _ _) ?_ | refine ex_some (o_sub _ _) ?_ | refine ex_some rfl ?_ | refine ex_int ?_ | refine ex_lst ?_ | refine ex_sbv rfl rfl rfl ?_ | refine ex_st rfl rfl rfl ?_
                | (refine ⟨(Nat.le_of_ble_eq_true rfl : _ ≤ lim), ?_⟩)))
              refine ex_some (o_fdivS (by omega) (by omega)) ?_
              (repeat (first
                | refine w_bcons ?_ | refine w_asg ?_ | refine w_par ?_ | refine w_exp ?_ | refine w_ife ?_ | refine w_ret ?_ | refine w_bnil ?_ | refine w_brk ?_ | refine w_cnt ?_
                | refine w_con ?_ | refine w_bin ?_ | refine w_neg ?_ | refine w_not ?_ | refine w_and ?_ | refine w_or ?_ | refine w_ifx ?_ | refine w_cmp ?_ | refine w_chain ?_
                | refine w_anil ?_ | refine w_acons ?_ | refine w_tup ?_ | refine w_lst ?_ | refine w_sub ?_ | refine w_ono ?_ | refine w_oso ?_ | refine w_slice ?_ | refine w_blt ?_ | refine w_isi ?_
                | refine w_call ?_ | refine w_ckw ?_ | refine w_rvl ?_ | refine w_lrg ?_ | refine w_to ?_ | refine w_ft ?_ | refine w_it ?_ | refine w_rng ?_ | refine w_enu ?_ | refine w_comp ?_
                | refine w_tp ?_ | refine w_tnil ?_ | refine w_tcons ?_
                | refine w_var (d := _) rfl rfl ?_ | refine w_varO (d := _) rfl rfl ?_ | refine w_lnv (d := _) rfl rfl ?_ | refine w_sbv (d0 := _) rfl ?_ | refine w_cio (d0 := _) rfl ?_ | refine w_app (l0 := _) rfl ?_ | refine w_st (d0 := _) rfl ?_ | refine w_retv (d := _) rfl ?_
                | refine w_nm (Nat.le_of_ble_eq_true rfl) ?_
                | refine ex_some (o_add _ _) ?_ | refine ex_some (o_sub _ _) ?_ | refine ex_some rfl ?_ | refine ex_int ?_ | refine ex_lst ?_ | refine ex_sbv rfl rfl rfl ?_ | refine ex_st rfl rfl rfl ?_
                | (refine ⟨(Nat.le_of_ble_eq_true rfl : _ ≤ lim), ?_⟩)))
              simp only [List.length_map, pw_len]
              refine ex_some (o_mod hm) ?_
              refine ⟨_, _, rfl, hpwi _, rfl, ?_⟩
              refine ex_some (o_mulS (by omega) (by omega) (by omega) (by omega)) ?_
              (repeat (first
                | refine w_bcons ?_ | refine w_asg ?_ | refine w_par ?_ | refine w_exp ?_ | refine w_ife ?_ | refine w_ret ?_ | refine w_bnil ?_ | refine w_brk ?_ | refine w_cnt ?_
                | refine w_con ?_ | refine w_bin ?_ | refine w_neg ?_ | refine w_not ?_ | refine w_and ?_ | refine w_or ?_ | refine w_ifx ?_ | refine w_cmp ?_ | refine w_chain ?_
                | refine w_anil ?_ | refine w_acons ?_ | refine w_tup ?_ | refine w_lst ?_ | refine w_sub ?_ | refine w_ono ?_ | refine w_oso ?_ | refine w_slice ?_ | refine w_blt ?_ | refine w_isi ?_
                | refine w_call ?_ | refine w_ckw ?_ | refine w_rvl ?_ | refine w_lrg ?_ | refine w_to ?_ | refine w_ft ?_ | refine w_it ?_ | refine w_rng ?_ | refine w_enu ?_ | refine w_comp ?_
                | refine w_tp ?_ | refine w_tnil ?_ | refine w_tcons ?_
                | refine w_var (d := _) rfl rfl ?_ | refine w_varO (d := _) rfl rfl ?_ | refine w_lnv (d := _) rfl rfl ?_ | refine w_sbv (d0 := _) rfl ?_ | refine w_cio (d0 := _) rfl ?_ | refine w_app (l0 := _) rfl ?_ | refine w_st (d0 := _) rfl ?_ | refine w_retv (d := _) rfl ?_
                | refine w_nm (Nat.le_of_ble_eq_true rfl) ?_
                | refine ex_some (o_add _ _) ?_ | refine ex_some (o_sub _ _) ?_ | refine ex_some rfl ?_ | refine ex_int ?_ | refine ex_lst ?_ | refine ex_sbv rfl rfl rfl ?_ | refine ex_st rfl rfl rfl ?_
                | (refine ⟨(Nat.le_of_ble_eq_true rfl : _ ≤ lim), ?_⟩)))
              refine ex_some (o_mod (by omega)) ?_
              (repeat (first
                | refine w_bcons ?_ | refine w_asg ?_ | refine w_par ?_ | refine w_exp ?_ | refine w_ife ?_ | refine w_ret ?_ | refine w_bnil ?_ | refine w_brk ?_ | refine w_cnt ?_
                | refine w_con ?_ | refine w_bin ?_ | refine w_neg ?_ | refine w_not ?_ | refine w_and ?_ | refine w_or ?_ | refine w_ifx ?_ | refine w_cmp ?_ | refine w_chain ?_
                | refine w_anil ?_ | refine w_acons ?_ | refine w_tup ?_ | refine w_lst ?_ | refine w_sub ?_ | refine w_ono ?_ | refine w_oso ?_ | refine w_slice ?_ | refine w_blt ?_ | refine w_isi ?_
                | refine w_call ?_ | refine w_ckw ?_ | refine w_rvl ?_ | refine w_lrg ?_ | refine w_to ?_ | refine w_ft ?_ | refine w_it ?_ | refine w_rng ?_ | refine w_enu ?_ | refine w_comp ?_
                | refine w_tp ?_ | refine w_tnil ?_ | refine w_tcons ?_
                | refine w_var (d := _) rfl rfl ?_ | refine w_varO (d := _) rfl rfl ?_ | refine w_lnv (d := _) rfl rfl ?_ | refine w_sbv (d0 := _) rfl ?_ | refine w_cio (d0 := _) rfl ?_ | refine w_app (l0 := _) rfl ?_ | refine w_st (d0 := _) rfl ?_ | refine w_retv (d := _) rfl ?_
                | refine w_nm (Nat.le_of_ble_eq_true rfl) ?_
                | refine ex_some (o_add _ _) ?_ | refine ex_some (o_sub _ _) ?_ | refine ex_some rfl ?_ | refine ex_int ?_ | refine ex_lst ?_ | refine ex_sbv rfl rfl rfl ?_ | refine ex_st rfl rfl rfl ?_
                | (refine ⟨(Nat.le_of_ble_eq_true rfl : _ ≤ lim), ?_⟩)))
              refine ex_some (o_mod (by omega)) ?_
              (repeat (first
                | refine w_bcons ?_ | refine w_asg ?_ | refine w_par ?_ | refine w_exp ?_ | refine w_ife ?_ | refine w_ret ?_ | refine w_bnil ?_ | refine w_brk ?_ | refine w_cnt ?_
                | refine w_con ?_ | refine w_bin ?_ | refine w_neg ?_ | refine w_not ?_ | refine w_and ?_ | refine w_or ?_ | refine w_ifx ?_ | refine w_cmp ?_ | refine w_chain ?_
                | refine w_anil ?_ | refine w_acons ?_ | refine w_tup ?_ | refine w_lst ?_ | refine w_sub ?_ | refine w_ono ?_ | refine w_oso ?_ | refine w_slice ?_ | refine w_blt ?_ | refine w_isi ?_
                | refine w_call ?_ | refine w_ckw ?_ | refine w_rvl ?_ | refine w_lrg ?_ | refine w_to ?_ | refine w_ft ?_ | refine w_it ?_ | refine w_rng ?_ | refine w_enu ?_ | refine w_comp ?_
                | refine w_tp ?_ | refine w_tnil ?_ | refine w_tcons ?_
                | refine w_var (d := _) rfl rfl ?_ | refine w_varO (d := _) rfl rfl ?_ | refine w_lnv (d := _) rfl rfl ?_ | refine w_sbv (d0 := _) rfl ?_ | refine w_cio (d0 := _) rfl ?_ | refine w_app (l0 := _) rfl ?_ | refine w_st (d0 := _) rfl ?_ | refine w_retv (d := _) rfl ?_
                | refine w_nm (Nat.le_of_ble_eq_true rfl) ?_
                | refine ex_some (o_add _ _) ?_ | refine ex_some (o_sub _ _) ?_ | refine ex_some rfl ?_ | refine ex_int ?_ | refine ex_lst ?_ | refine ex_sbv rfl rfl rfl ?_ | refine ex_st rfl rfl rfl ?_
                | (refine ⟨(Nat.le_of_ble_eq_true rfl : _ ≤ lim), ?_⟩)))
              exact ⟨_, hcnt, F', _, _, rfl, hF2, Int.emod_nonneg _ (by omega), Int.emod_lt_of_pos _ (by omega), Int.emod_nonneg _ (by omega), Int.emod_lt_of_pos _ (by omega), hI2, .inr hK2, rfl⟩
            · refine ⟨false, by simp [hz], fun _ => ⟨rfl, F, a, x, rfl, hF, fun j hj hjk => ?_⟩, fun h => (nomatch h)⟩
              by_cases hjk2 : j < k
              · exact hI j hj hjk2
              · have : j = k := by omega
                subst this
                rcases hK with z | z
                · have e : a.toNat = j := by omega
                  subst e
                  omega
                · exact z hj
          · subst eρ
            exact w_bnil ⟨l3, F, _, _, _, rfl, g3, hF, hI⟩
      · subst eρ
        have hFl := hF.len
        refine ⟨rfl, l2, F, rfl, g2, hFl, fun x hx => ?_⟩
        obtain ⟨j, hj, rfl⟩ := List.getElem_of_mem hx
        exact ⟨hI j hj (by rw [intsD_len']; omega), (hF.lo _ hx).2⟩
    · subst eρ
      (repeat (first
        | refine w_bcons ?_ | refine w_asg ?_ | refine w_par ?_ | refine w_exp ?_ | refine w_ife ?_ | refine w_ret ?_ | refine w_bnil ?_ | refine w_brk ?_ | refine w_cnt ?_
        | refine w_con ?_ | refine w_bin ?_ | refine w_neg ?_ | refine w_not ?_ | refine w_and ?_ | refine w_or ?_ | refine w_ifx ?_ | refine w_cmp ?_ | refine w_chain ?_
        | refine w_anil ?_ | refine w_acons ?_ | refine w_tup ?_ | refine w_lst ?_ | refine w_sub ?_ | refine w_ono ?_ | refine w_oso ?_ | refine w_slice ?_ | refine w_blt ?_ | refine w_isi ?_
        | refine w_call ?_ | refine w_ckw ?_ | refine w_rvl ?_ | refine w_lrg ?_ | refine w_to ?_ | refine w_ft ?_ | refine w_it ?_ | refine w_rng ?_ | refine w_enu ?_ | refine w_comp ?_
        | refine w_tp ?_ | refine w_tnil ?_ | refine w_tcons ?_
        | refine w_var (d := _) rfl rfl ?_ | refine w_varO (d := _) rfl rfl ?_ | refine w_lnv (d := _) rfl rfl ?_ | refine w_sbv (d0 := _) rfl ?_ | refine w_cio (d0 := _) rfl ?_ | refine w_app (l0 := _) rfl ?_ | refine w_st (d0 := _) rfl ?_ | refine w_retv (d := _) rfl ?_
        | refine w_nm (Nat.le_of_ble_eq_true rfl) ?_
        | refine ex_some (o_add _ _) ?_ | refine ex_some (o_sub _ _) ?_ | refine ex_some rfl ?_ | refine ex_int ?_ | refine ex_lst ?_ | refine ex_sbv rfl rfl rfl ?_ | refine ex_st rfl rfl rfl ?_
        | (refine ⟨(Nat.le_of_ble_eq_true rfl : _ ≤ lim), ?_⟩)))
      refine ⟨_, rfl, F, l2, ?_, rfl, hF, g2⟩
      show D.tup (D.fzA (iA F)) = _
      rw [fzA_i]
theorem sh_ok (k : Nat) : ShOk (callN fs (k + 4)) := fun {p c n l} h hn hn2 hb => by
  rw [callN_eq (F := m__law_short_row) rfl]
  obtain ⟨d, x', e, row, l', rfl, rfl, hr, g⟩ := short _ (all_ok k) (gc_ok (k + 2)) h hn hn2 hb
  exact ⟨row, l', e, hr, g⟩
end R49

namespace R49
open PySem PySem.Spec Rr
def OwOk (C : Fn) : Prop := ∀ {p c : Int} {n : Nat} {l : List D}, PC p c → 0 < n → n ≤ 16 → Bg l → ∃ row l', C 20 [.lst true l, .int p, .int n, .int c] = some (iT row, [.lst true l']) ∧ Row p n row ∧ Bg l'
theorem ownrow (C : Fn) (A : All C) (hS : ShOk C) {p c : Int} {n : Nat} {l : List D} (h : PC p c) (hn : 0 < n) (hn2 : n ≤ 16) (hb : Bg l) :
    ∃ d x', runF C m__law_own_row [.lst true l, .int p, .int n, .int c] = some (d, [x']) ∧ ∃ row l', d = iT row ∧ x' = .lst true l' ∧ Row p n row ∧ Bg l' := by
  have p1 := h.p1
  have p13 := h.p13
  refine w_runio (Q := fun d x' => ∃ row l', d = iT row ∧ x' = .lst true l' ∧ Row p n row ∧ Bg l') rfl (by decide) rfl ?_
  show wB C _ [some (.lst true l), some (.int p), some (.int n), some (.int c), none, none, none] _
  (repeat (first
    | refine w_bcons ?_ | refine w_asg ?_ | refine w_par ?_ | refine w_exp ?_ | refine w_ife ?_ | refine w_ret ?_ | refine w_bnil ?_ | refine w_brk ?_ | refine w_cnt ?_
    | refine w_con ?_ | refine w_bin ?_ | refine w_neg ?_ | refine w_not ?_ | refine w_and ?_ | refine w_or ?_ | refine w_ifx ?_ | refine w_cmp ?_ | refine w_chain ?_
    | refine w_anil ?_ | refine w_acons ?_ | refine w_tup ?_ | refine w_lst ?_ | refine w_sub ?_ | refine w_ono ?_ | refine w_oso ?_ | refine w_slice ?_ | refine w_blt ?_ | refine w_isi ?_
    | refine w_call ?_ | refine w_ckw ?_ | refine w_rvl ?_ | refine w_lrg ?_ | refine w_to ?_ | refine w_ft ?_ | refine w_it ?_ | refine w_rng ?_ | refine w_enu ?_ | refine w_comp ?_
    | refine w_tp ?_ | refine w_tnil ?_ | refine w_tcons ?_
    | refine w_var (d := _) rfl rfl ?_ | refine w_varO (d := _) rfl rfl ?_ | refine w_lnv (d := _) rfl rfl ?_ | refine w_sbv (d0 := _) rfl ?_ | refine w_cio (d0 := _) rfl ?_ | refine w_app (l0 := _) rfl ?_ | refine w_st (d0 := _) rfl ?_ | refine w_retv (d := _) rfl ?_
    | refine w_nm (Nat.le_of_ble_eq_true rfl) ?_
    | refine ex_some (o_add _ _) ?_ | refine ex_some (o_sub _ _) ?_ | refine ex_some rfl ?_ | refine ex_int ?_ | refine ex_lst ?_ | refine ex_sbv rfl rfl rfl ?_ | refine ex_st rfl rfl rfl ?_
    | (refine ⟨(Nat.le_of_ble_eq_true rfl : _ ≤ lim), ?_⟩)))
  obtain ⟨way, l1, e1, q1, q2, g1⟩ := A.draw l 8 hb (by decide) (by decide)
  refine ⟨_, _, _, rfl, e1, ?_⟩
  (repeat (first
    | refine w_bcons ?_ | refine w_asg ?_ | refine w_par ?_ | refine w_exp ?_ | refine w_ife ?_ | refine w_ret ?_ | refine w_bnil ?_ | refine w_brk ?_ | refine w_cnt ?_
    | refine w_con ?_ | refine w_bin ?_ | refine w_neg ?_ | refine w_not ?_ | refine w_and ?_ | refine w_or ?_ | refine w_ifx ?_ | refine w_cmp ?_ | refine w_chain ?_
    | refine w_anil ?_ | refine w_acons ?_ | refine w_tup ?_ | refine w_lst ?_ | refine w_sub ?_ | refine w_ono ?_ | refine w_oso ?_ | refine w_slice ?_ | refine w_blt ?_ | refine w_isi ?_
    | refine w_call ?_ | refine w_ckw ?_ | refine w_rvl ?_ | refine w_lrg ?_ | refine w_to ?_ | refine w_ft ?_ | refine w_it ?_ | refine w_rng ?_ | refine w_enu ?_ | refine w_comp ?_
    | refine w_tp ?_ | refine w_tnil ?_ | refine w_tcons ?_
    | refine w_var (d := _) rfl rfl ?_ | refine w_varO (d := _) rfl rfl ?_ | refine w_lnv (d := _) rfl rfl ?_ | refine w_sbv (d0 := _) rfl ?_ | refine w_cio (d0 := _) rfl ?_ | refine w_app (l0 := _) rfl ?_ | refine w_st (d0 := _) rfl ?_ | refine w_retv (d := _) rfl ?_
    | refine w_nm (Nat.le_of_ble_eq_true rfl) ?_
    | refine ex_some (o_add _ _) ?_ | refine ex_some (o_sub _ _) ?_ | refine ex_some rfl ?_ | refine ex_int ?_ | refine ex_lst ?_ | refine ex_sbv rfl rfl rfl ?_ | refine ex_st rfl rfl rfl ?_
    | (refine ⟨(Nat.le_of_ble_eq_true rfl : _ ≤ lim), ?_⟩)))
  refine ex_dec (fun h3 => ?_) (fun h3 => ?_)
  · (repeat (first
      | refine w_bcons ?_ | refine w_asg ?_ | refine w_par ?_ | refine w_exp ?_ | refine w_ife ?_ | refine w_ret ?_ | refine w_bnil ?_ | refine w_brk ?_ | refine w_cnt ?_
      | refine w_con ?_ | refine w_bin ?_ | refine w_neg ?_ | refine w_not ?_ | refine w_and ?_ | refine w_or ?_ | refine w_ifx ?_ | refine w_cmp ?_ | refine w_chain ?_
      | refine w_anil ?_ | refine w_acons ?_ | refine w_tup ?_ | refine w_lst ?_ | refine w_sub ?_ | refine w_ono ?_ | refine w_oso ?_ | refine w_slice ?_ | refine w_blt ?_ | refine w_isi ?_
      | refine w_call ?_ | refine w_ckw ?_ | refine w_rvl ?_ | refine w_lrg ?_ | refine w_to ?_ | refine w_ft ?_ | refine w_it ?_ | refine w_rng ?_ | refine w_enu ?_ | refine w_comp ?_
      | refine w_tp ?_ | refine w_tnil ?_ | refine w_tcons ?_
      | refine w_var (d := _) rfl rfl ?_ | refine w_varO (d := _) rfl rfl ?_ | refine w_lnv (d := _) rfl rfl ?_ | refine w_sbv (d0 := _) rfl ?_ | refine w_cio (d0 := _) rfl ?_ | refine w_app (l0 := _) rfl ?_ | refine w_st (d0 := _) rfl ?_ | refine w_retv (d := _) rfl ?_
      | refine w_nm (Nat.le_of_ble_eq_true rfl) ?_
      | refine ex_some (o_add _ _) ?_ | refine ex_some (o_sub _ _) ?_ | refine ex_some rfl ?_ | refine ex_int ?_ | refine ex_lst ?_ | refine ex_sbv rfl rfl rfl ?_ | refine ex_st rfl rfl rfl ?_
      | (refine ⟨(Nat.le_of_ble_eq_true rfl : _ ≤ lim), ?_⟩)))
    refine ⟨sm62 (by omega), ?_⟩
    rw [Int.sub_zero, Int.toNat_natCast]
    refine ⟨by rw [intsD_len']; show _ ≤ 1000000; omega, wC_inv (fun k xs r => ∃ l ys, xs = iA ys ∧ ys.length = k ∧ (∀ y ∈ ys, 0 ≤ y ∧ y < p) ∧ Bg l ∧ r = [some (.lst true l), some (.int p), some (.int n), some (.int c), some (.int way), none, none]) ⟨l1, [], rfl, rfl, fun _ hy => (nomatch hy), g1, rfl⟩ (fun k d xs r hk ⟨l2, ys, ex, el, hy, g2, er⟩ => ?_) fun xs r ⟨l2, ys, ex, el, hy, g2, er⟩ => ?_⟩
    · subst ex er
      obtain ⟨_, rfl⟩ := intsD_get hk
      refine w_nm (Nat.le_of_ble_eq_true rfl) ?_
      show wE C _ [some (.lst true l2), some (.int p), some (.int n), some (.int c), some (.int way), none, some (.int (0 + (k : Int)))] _
      (repeat (first
        | refine w_bcons ?_ | refine w_asg ?_ | refine w_par ?_ | refine w_exp ?_ | refine w_ife ?_ | refine w_ret ?_ | refine w_bnil ?_ | refine w_brk ?_ | refine w_cnt ?_
        | refine w_con ?_ | refine w_bin ?_ | refine w_neg ?_ | refine w_not ?_ | refine w_and ?_ | refine w_or ?_ | refine w_ifx ?_ | refine w_cmp ?_ | refine w_chain ?_
        | refine w_anil ?_ | refine w_acons ?_ | refine w_tup ?_ | refine w_lst ?_ | refine w_sub ?_ | refine w_ono ?_ | refine w_oso ?_ | refine w_slice ?_ | refine w_blt ?_ | refine w_isi ?_
        | refine w_call ?_ | refine w_ckw ?_ | refine w_rvl ?_ | refine w_lrg ?_ | refine w_to ?_ | refine w_ft ?_ | refine w_it ?_ | refine w_rng ?_ | refine w_enu ?_ | refine w_comp ?_
        | refine w_tp ?_ | refine w_tnil ?_ | refine w_tcons ?_
        | refine w_var (d := _) rfl rfl ?_ | refine w_varO (d := _) rfl rfl ?_ | refine w_lnv (d := _) rfl rfl ?_ | refine w_sbv (d0 := _) rfl ?_ | refine w_cio (d0 := _) rfl ?_ | refine w_app (l0 := _) rfl ?_ | refine w_st (d0 := _) rfl ?_ | refine w_retv (d := _) rfl ?_
        | refine w_nm (Nat.le_of_ble_eq_true rfl) ?_
        | refine ex_some (o_add _ _) ?_ | refine ex_some (o_sub _ _) ?_ | refine ex_some rfl ?_ | refine ex_int ?_ | refine ex_lst ?_ | refine ex_sbv rfl rfl rfl ?_ | refine ex_st rfl rfl rfl ?_
        | (refine ⟨(Nat.le_of_ble_eq_true rfl : _ ≤ lim), ?_⟩)))
      obtain ⟨r, l3, e3, q3, q4, g3⟩ := A.draw l2 p g2 (by omega) (by omega)
      refine ⟨_, _, _, rfl, e3, l3, ys ++ [r], ?_, by rw [List.length_append, el]; rfl, fun y hy2 => ?_, g3, rfl⟩
      · rw [iA, iA, List.map_append]
        rfl
      · rcases List.mem_append.mp hy2 with z | z
        · exact hy y z
        · rw [List.mem_singleton.mp z]; exact ⟨q3, q4⟩
    · subst ex er
      rw [intsD_len'] at el
      (repeat (first
        | refine w_bcons ?_ | refine w_asg ?_ | refine w_par ?_ | refine w_exp ?_ | refine w_ife ?_ | refine w_ret ?_ | refine w_bnil ?_ | refine w_brk ?_ | refine w_cnt ?_
        | refine w_con ?_ | refine w_bin ?_ | refine w_neg ?_ | refine w_not ?_ | refine w_and ?_ | refine w_or ?_ | refine w_ifx ?_ | refine w_cmp ?_ | refine w_chain ?_
        | refine w_anil ?_ | refine w_acons ?_ | refine w_tup ?_ | refine w_lst ?_ | refine w_sub ?_ | refine w_ono ?_ | refine w_oso ?_ | refine w_slice ?_ | refine w_blt ?_ | refine w_isi ?_
        | refine w_call ?_ | refine w_ckw ?_ | refine w_rvl ?_ | refine w_lrg ?_ | refine w_to ?_ | refine w_ft ?_ | refine w_it ?_ | refine w_rng ?_ | refine w_enu ?_ | refine w_comp ?_
        | refine w_tp ?_ | refine w_tnil ?_ | refine w_tcons ?_
        | refine w_var (d := _) rfl rfl ?_ | refine w_varO (d := _) rfl rfl ?_ | refine w_lnv (d := _) rfl rfl ?_ | refine w_sbv (d0 := _) rfl ?_ | refine w_cio (d0 := _) rfl ?_ | refine w_app (l0 := _) rfl ?_ | refine w_st (d0 := _) rfl ?_ | refine w_retv (d := _) rfl ?_
        | refine w_nm (Nat.le_of_ble_eq_true rfl) ?_
        | refine ex_some (o_add _ _) ?_ | refine ex_some (o_sub _ _) ?_ | refine ex_some rfl ?_ | refine ex_int ?_ | refine ex_lst ?_ | refine ex_sbv rfl rfl rfl ?_ | refine ex_st rfl rfl rfl ?_
        | (refine ⟨(Nat.le_of_ble_eq_true rfl : _ ≤ lim), ?_⟩)))
      refine ⟨_, rfl, ys, l2, ?_, rfl, ⟨el, hy⟩, g2⟩
      show D.tup (D.fzA (iA ys)) = _
      rw [fzA_i]
  · (repeat (first
      | refine w_bcons ?_ | refine w_asg ?_ | refine w_par ?_ | refine w_exp ?_ | refine w_ife ?_ | refine w_ret ?_ | refine w_bnil ?_ | refine w_brk ?_ | refine w_cnt ?_
      | refine w_con ?_ | refine w_bin ?_ | refine w_neg ?_ | refine w_not ?_ | refine w_and ?_ | refine w_or ?_ | refine w_ifx ?_ | refine w_cmp ?_ | refine w_chain ?_
      | refine w_anil ?_ | refine w_acons ?_ | refine w_tup ?_ | refine w_lst ?_ | refine w_sub ?_ | refine w_ono ?_ | refine w_oso ?_ | refine w_slice ?_ | refine w_blt ?_ | refine w_isi ?_
      | refine w_call ?_ | refine w_ckw ?_ | refine w_rvl ?_ | refine w_lrg ?_ | refine w_to ?_ | refine w_ft ?_ | refine w_it ?_ | refine w_rng ?_ | refine w_enu ?_ | refine w_comp ?_
      | refine w_tp ?_ | refine w_tnil ?_ | refine w_tcons ?_
      | refine w_var (d := _) rfl rfl ?_ | refine w_varO (d := _) rfl rfl ?_ | refine w_lnv (d := _) rfl rfl ?_ | refine w_sbv (d0 := _) rfl ?_ | refine w_cio (d0 := _) rfl ?_ | refine w_app (l0 := _) rfl ?_ | refine w_st (d0 := _) rfl ?_ | refine w_retv (d := _) rfl ?_
      | refine w_nm (Nat.le_of_ble_eq_true rfl) ?_
      | refine ex_some (o_add _ _) ?_ | refine ex_some (o_sub _ _) ?_ | refine ex_some rfl ?_ | refine ex_int ?_ | refine ex_lst ?_ | refine ex_sbv rfl rfl rfl ?_ | refine ex_st rfl rfl rfl ?_
      | (refine ⟨(Nat.le_of_ble_eq_true rfl : _ ≤ lim), ?_⟩)))
    refine ex_dec (fun h6 => ?_) (fun h6 => ?_)
    · (repeat (first
        | refine w_bcons ?_ | refine w_asg ?_ | refine w_par ?_ | refine w_exp ?_ | refine w_ife ?_ | refine w_ret ?_ | refine w_bnil ?_ | refine w_brk ?_ | refine w_cnt ?_
        | refine w_con ?_ | refine w_bin ?_ | refine w_neg ?_ | refine w_not ?_ | refine w_and ?_ | refine w_or ?_ | refine w_ifx ?_ | refine w_cmp ?_ | refine w_chain ?_
        | refine w_anil ?_ | refine w_acons ?_ | refine w_tup ?_ | refine w_lst ?_ | refine w_sub ?_ | refine w_ono ?_ | refine w_oso ?_ | refine w_slice ?_ | refine w_blt ?_ | refine w_isi ?_
        | refine w_call ?_ | refine w_ckw ?_ | refine w_rvl ?_ | refine w_lrg ?_ | refine w_to ?_ | refine w_ft ?_ | refine w_it ?_ | refine w_rng ?_ | refine w_enu ?_ | refine w_comp ?_
        | refine w_tp ?_ | refine w_tnil ?_ | refine w_tcons ?_
        | refine w_var (d := _) rfl rfl ?_ | refine w_varO (d := _) rfl rfl ?_ | refine w_lnv (d := _) rfl rfl ?_ | refine w_sbv (d0 := _) rfl ?_ | refine w_cio (d0 := _) rfl ?_ | refine w_app (l0 := _) rfl ?_ | refine w_st (d0 := _) rfl ?_ | refine w_retv (d := _) rfl ?_
        | refine w_nm (Nat.le_of_ble_eq_true rfl) ?_
        | refine ex_some (o_add _ _) ?_ | refine ex_some (o_sub _ _) ?_ | refine ex_some rfl ?_ | refine ex_int ?_ | refine ex_lst ?_ | refine ex_sbv rfl rfl rfl ?_ | refine ex_st rfl rfl rfl ?_
        | (refine ⟨(Nat.le_of_ble_eq_true rfl : _ ≤ lim), ?_⟩)))
      obtain ⟨row, l2, e2, hr, g2⟩ := hS h hn hn2 g1
      exact ⟨_, _, _, rfl, e2, _, rfl, row, l2, rfl, rfl, hr, g2⟩
    · (repeat (first
        | refine w_bcons ?_ | refine w_asg ?_ | refine w_par ?_ | refine w_exp ?_ | refine w_ife ?_ | refine w_ret ?_ | refine w_bnil ?_ | refine w_brk ?_ | refine w_cnt ?_
        | refine w_con ?_ | refine w_bin ?_ | refine w_neg ?_ | refine w_not ?_ | refine w_and ?_ | refine w_or ?_ | refine w_ifx ?_ | refine w_cmp ?_ | refine w_chain ?_
        | refine w_anil ?_ | refine w_acons ?_ | refine w_tup ?_ | refine w_lst ?_ | refine w_sub ?_ | refine w_ono ?_ | refine w_oso ?_ | refine w_slice ?_ | refine w_blt ?_ | refine w_isi ?_
        | refine w_call ?_ | refine w_ckw ?_ | refine w_rvl ?_ | refine w_lrg ?_ | refine w_to ?_ | refine w_ft ?_ | refine w_it ?_ | refine w_rng ?_ | refine w_enu ?_ | refine w_comp ?_
        | refine w_tp ?_ | refine w_tnil ?_ | refine w_tcons ?_
        | refine w_var (d := _) rfl rfl ?_ | refine w_varO (d := _) rfl rfl ?_ | refine w_lnv (d := _) rfl rfl ?_ | refine w_sbv (d0 := _) rfl ?_ | refine w_cio (d0 := _) rfl ?_ | refine w_app (l0 := _) rfl ?_ | refine w_st (d0 := _) rfl ?_ | refine w_retv (d := _) rfl ?_
        | refine w_nm (Nat.le_of_ble_eq_true rfl) ?_
        | refine ex_some (o_add _ _) ?_ | refine ex_some (o_sub _ _) ?_ | refine ex_some rfl ?_ | refine ex_int ?_ | refine ex_lst ?_ | refine ex_sbv rfl rfl rfl ?_ | refine ex_st rfl rfl rfl ?_
        | (refine ⟨(Nat.le_of_ble_eq_true rfl : _ ≤ lim), ?_⟩)))
      refine ex_some (lmul (x := 0) (k := n) (by omega) (by omega) false) ?_
      rw [Int.toNat_natCast]
      have hF : Row p n (List.replicate n 0) := ⟨List.length_replicate, fun x hx => by rw [List.eq_of_mem_replicate hx]; omega⟩
      generalize List.replicate n (0 : Int) = F at hF
      (repeat (first
        | refine w_bcons ?_ | refine w_asg ?_ | refine w_par ?_ | refine w_exp ?_ | refine w_ife ?_ | refine w_ret ?_ | refine w_bnil ?_ | refine w_brk ?_ | refine w_cnt ?_
        | refine w_con ?_ | refine w_bin ?_ | refine w_neg ?_ | refine w_not ?_ | refine w_and ?_ | refine w_or ?_ | refine w_ifx ?_ | refine w_cmp ?_ | refine w_chain ?_
        | refine w_anil ?_ | refine w_acons ?_ | refine w_tup ?_ | refine w_lst ?_ | refine w_sub ?_ | refine w_ono ?_ | refine w_oso ?_ | refine w_slice ?_ | refine w_blt ?_ | refine w_isi ?_
        | refine w_call ?_ | refine w_ckw ?_ | refine w_rvl ?_ | refine w_lrg ?_ | refine w_to ?_ | refine w_ft ?_ | refine w_it ?_ | refine w_rng ?_ | refine w_enu ?_ | refine w_comp ?_
        | refine w_tp ?_ | refine w_tnil ?_ | refine w_tcons ?_
        | refine w_var (d := _) rfl rfl ?_ | refine w_varO (d := _) rfl rfl ?_ | refine w_lnv (d := _) rfl rfl ?_ | refine w_sbv (d0 := _) rfl ?_ | refine w_cio (d0 := _) rfl ?_ | refine w_app (l0 := _) rfl ?_ | refine w_st (d0 := _) rfl ?_ | refine w_retv (d := _) rfl ?_
        | refine w_nm (Nat.le_of_ble_eq_true rfl) ?_
        | refine ex_some (o_add _ _) ?_ | refine ex_some (o_sub _ _) ?_ | refine ex_some rfl ?_ | refine ex_int ?_ | refine ex_lst ?_ | refine ex_sbv rfl rfl rfl ?_ | refine ex_st rfl rfl rfl ?_
        | (refine ⟨(Nat.le_of_ble_eq_true rfl : _ ≤ lim), ?_⟩)))
      have fin : ∀ (l : List D) (G : List Int), Bg l → Row p n G → wB C (.cons (.ret (.blt .tuple (.var 5))) .nil) [some (.lst true l), some (.int p), some (.int n), some (.int c), some (.int way), some (.lst true (iA G)), none] fun f r => match f with
          | .rt d => ∃ x, r[0]? = some (some x) ∧ ∃ row l', d = iT row ∧ x = D.lst true l' ∧ Row p n row ∧ Bg l'
          | .nx => ∃ x, r[0]? = some (some x) ∧ ∃ row l', D.non = iT row ∧ x = D.lst true l' ∧ Row p n row ∧ Bg l'
          | x => False := fun l G gl hG => by
        (repeat (first
          | refine w_bcons ?_ | refine w_asg ?_ | refine w_par ?_ | refine w_exp ?_ | refine w_ife ?_ | refine w_ret ?_ | refine w_bnil ?_ | refine w_brk ?_ | refine w_cnt ?_
          | refine w_con ?_ | refine w_bin ?_ | refine w_neg ?_ | refine w_not ?_ | refine w_and ?_ | refine w_or ?_ | refine w_ifx ?_ | refine w_cmp ?_ | refine w_chain ?_
          | refine w_anil ?_ | refine w_acons ?_ | refine w_tup ?_ | refine w_lst ?_ | refine w_sub ?_ | refine w_ono ?_ | refine w_oso ?_ | refine w_slice ?_ | refine w_blt ?_ | refine w_isi ?_
          | refine w_call ?_ | refine w_ckw ?_ | refine w_rvl ?_ | refine w_lrg ?_ | refine w_to ?_ | refine w_ft ?_ | refine w_it ?_ | refine w_rng ?_ | refine w_enu ?_ | refine w_comp ?_
          | refine w_tp ?_ | refine w_tnil ?_ | refine w_tcons ?_
          | refine w_var (d := _) rfl rfl ?_ | refine w_varO (d := _) rfl rfl ?_ | refine w_lnv (d := _) rfl rfl ?_ | refine w_sbv (d0 := _) rfl ?_ | refine w_cio (d0 := _) rfl ?_ | refine w_app (l0 := _) rfl ?_ | refine w_st (d0 := _) rfl ?_ | refine w_retv (d := _) rfl ?_
          | refine w_nm (Nat.le_of_ble_eq_true rfl) ?_
          | refine ex_some (o_add _ _) ?_ | refine ex_some (o_sub _ _) ?_ | refine ex_some rfl ?_ | refine ex_int ?_ | refine ex_lst ?_ | refine ex_sbv rfl rfl rfl ?_ | refine ex_st rfl rfl rfl ?_
          | (refine ⟨(Nat.le_of_ble_eq_true rfl : _ ≤ lim), ?_⟩)))
        refine ⟨_, rfl, G, l, ?_, rfl, hG, gl⟩
        show D.tup (D.fzA (iA G)) = _
        rw [fzA_i]
      have put : ∀ (l : List D), Bg l → wB C (.cons (.asg (.st 5 (.cio 9 0 (.cons (.var 2) (.nil)))) (.bin .add (.con (.int 1)) (.cio 9 0 (.cons (.bin .sub (.var 1) (.con (.int 1))) (.nil))))) (.nil)) [some (.lst true l), some (.int p), some (.int n), some (.int c), some (.int way), some (.lst true (iA F)), none] fun f r => f = .nx ∧ ∃ l G, r = [some (.lst true l), some (.int p), some (.int n), some (.int c), some (.int way), some (.lst true (iA G)), none] ∧ Bg l ∧ Row p n G := fun l gl => by
        (repeat (first
          | refine w_bcons ?_ | refine w_asg ?_ | refine w_par ?_ | refine w_exp ?_ | refine w_ife ?_ | refine w_ret ?_ | refine w_bnil ?_ | refine w_brk ?_ | refine w_cnt ?_
          | refine w_con ?_ | refine w_bin ?_ | refine w_neg ?_ | refine w_not ?_ | refine w_and ?_ | refine w_or ?_ | refine w_ifx ?_ | refine w_cmp ?_ | refine w_chain ?_
          | refine w_anil ?_ | refine w_acons ?_ | refine w_tup ?_ | refine w_lst ?_ | refine w_sub ?_ | refine w_ono ?_ | refine w_oso ?_ | refine w_slice ?_ | refine w_blt ?_ | refine w_isi ?_
          | refine w_call ?_ | refine w_ckw ?_ | refine w_rvl ?_ | refine w_lrg ?_ | refine w_to ?_ | refine w_ft ?_ | refine w_it ?_ | refine w_rng ?_ | refine w_enu ?_ | refine w_comp ?_
          | refine w_tp ?_ | refine w_tnil ?_ | refine w_tcons ?_
          | refine w_var (d := _) rfl rfl ?_ | refine w_varO (d := _) rfl rfl ?_ | refine w_lnv (d := _) rfl rfl ?_ | refine w_sbv (d0 := _) rfl ?_ | refine w_cio (d0 := _) rfl ?_ | refine w_app (l0 := _) rfl ?_ | refine w_st (d0 := _) rfl ?_ | refine w_retv (d := _) rfl ?_
          | refine w_nm (Nat.le_of_ble_eq_true rfl) ?_
          | refine ex_some (o_add _ _) ?_ | refine ex_some (o_sub _ _) ?_ | refine ex_some rfl ?_ | refine ex_int ?_ | refine ex_lst ?_ | refine ex_sbv rfl rfl rfl ?_ | refine ex_st rfl rfl rfl ?_
          | (refine ⟨(Nat.le_of_ble_eq_true rfl : _ ≤ lim), ?_⟩)))
        obtain ⟨r, l3, e3, q3, q4, g3⟩ := A.draw l (p - 1) gl (by omega) (by omega)
        refine ⟨_, _, _, rfl, e3, ?_⟩
        (repeat (first
          | refine w_bcons ?_ | refine w_asg ?_ | refine w_par ?_ | refine w_exp ?_ | refine w_ife ?_ | refine w_ret ?_ | refine w_bnil ?_ | refine w_brk ?_ | refine w_cnt ?_
          | refine w_con ?_ | refine w_bin ?_ | refine w_neg ?_ | refine w_not ?_ | refine w_and ?_ | refine w_or ?_ | refine w_ifx ?_ | refine w_cmp ?_ | refine w_chain ?_
          | refine w_anil ?_ | refine w_acons ?_ | refine w_tup ?_ | refine w_lst ?_ | refine w_sub ?_ | refine w_ono ?_ | refine w_oso ?_ | refine w_slice ?_ | refine w_blt ?_ | refine w_isi ?_
          | refine w_call ?_ | refine w_ckw ?_ | refine w_rvl ?_ | refine w_lrg ?_ | refine w_to ?_ | refine w_ft ?_ | refine w_it ?_ | refine w_rng ?_ | refine w_enu ?_ | refine w_comp ?_
          | refine w_tp ?_ | refine w_tnil ?_ | refine w_tcons ?_
          | refine w_var (d := _) rfl rfl ?_ | refine w_varO (d := _) rfl rfl ?_ | refine w_lnv (d := _) rfl rfl ?_ | refine w_sbv (d0 := _) rfl ?_ | refine w_cio (d0 := _) rfl ?_ | refine w_app (l0 := _) rfl ?_ | refine w_st (d0 := _) rfl ?_ | refine w_retv (d := _) rfl ?_
          | refine w_nm (Nat.le_of_ble_eq_true rfl) ?_
          | refine ex_some (o_add _ _) ?_ | refine ex_some (o_sub _ _) ?_ | refine ex_some rfl ?_ | refine ex_int ?_ | refine ex_lst ?_ | refine ex_sbv rfl rfl rfl ?_ | refine ex_st rfl rfl rfl ?_
          | (refine ⟨(Nat.le_of_ble_eq_true rfl : _ ≤ lim), ?_⟩)))
        obtain ⟨a, l4, e4, q5, q6, g4⟩ := A.draw l3 n g3 (by omega) (by omega)
        refine ⟨_, _, _, rfl, e4, ?_⟩
        have hix : L2.ixN (iA F).length a = some a.toNat := by
          rw [List.length_map, hF.len]
          have := ixN_nat (n := n) (k := a.toNat) (by omega)
          rw [Int.toNat_of_nonneg q5] at this
          exact this
        refine ⟨_, _, _, rfl, rfl, hix, ?_⟩
        rw [set_iA]
        refine w_bnil ⟨rfl, l4, F.set a.toNat (1 + r), rfl, g4, by rw [List.length_set]; exact hF.len, fun y hy => ?_⟩
        rcases List.mem_or_eq_of_mem_set hy with z | z
        · exact hF.lo y z
        · omega
      refine ex_dec (fun h0 => ?_) (fun h0 => ?_)
      · exact ex_yes rfl ((put l1 g1).mono fun f r ⟨ef, l2, G, er, g2, hG⟩ => by subst ef er; exact fin l2 G g2 hG)
      · (repeat (first
          | refine w_bcons ?_ | refine w_asg ?_ | refine w_par ?_ | refine w_exp ?_ | refine w_ife ?_ | refine w_ret ?_ | refine w_bnil ?_ | refine w_brk ?_ | refine w_cnt ?_
          | refine w_con ?_ | refine w_bin ?_ | refine w_neg ?_ | refine w_not ?_ | refine w_and ?_ | refine w_or ?_ | refine w_ifx ?_ | refine w_cmp ?_ | refine w_chain ?_
          | refine w_anil ?_ | refine w_acons ?_ | refine w_tup ?_ | refine w_lst ?_ | refine w_sub ?_ | refine w_ono ?_ | refine w_oso ?_ | refine w_slice ?_ | refine w_blt ?_ | refine w_isi ?_
          | refine w_call ?_ | refine w_ckw ?_ | refine w_rvl ?_ | refine w_lrg ?_ | refine w_to ?_ | refine w_ft ?_ | refine w_it ?_ | refine w_rng ?_ | refine w_enu ?_ | refine w_comp ?_
          | refine w_tp ?_ | refine w_tnil ?_ | refine w_tcons ?_
          | refine w_var (d := _) rfl rfl ?_ | refine w_varO (d := _) rfl rfl ?_ | refine w_lnv (d := _) rfl rfl ?_ | refine w_sbv (d0 := _) rfl ?_ | refine w_cio (d0 := _) rfl ?_ | refine w_app (l0 := _) rfl ?_ | refine w_st (d0 := _) rfl ?_ | refine w_retv (d := _) rfl ?_
          | refine w_nm (Nat.le_of_ble_eq_true rfl) ?_
          | refine ex_some (o_add _ _) ?_ | refine ex_some (o_sub _ _) ?_ | refine ex_some rfl ?_ | refine ex_int ?_ | refine ex_lst ?_ | refine ex_sbv rfl rfl rfl ?_ | refine ex_st rfl rfl rfl ?_
          | (refine ⟨(Nat.le_of_ble_eq_true rfl : _ ≤ lim), ?_⟩)))
        obtain ⟨r, l3, e3, q3, q4, g3⟩ := A.draw l1 3 g1 (by decide) (by decide)
        refine ⟨_, _, _, rfl, e3, ?_⟩
        (repeat (first
          | refine w_bcons ?_ | refine w_asg ?_ | refine w_par ?_ | refine w_exp ?_ | refine w_ife ?_ | refine w_ret ?_ | refine w_bnil ?_ | refine w_brk ?_ | refine w_cnt ?_
          | refine w_con ?_ | refine w_bin ?_ | refine w_neg ?_ | refine w_not ?_ | refine w_and ?_ | refine w_or ?_ | refine w_ifx ?_ | refine w_cmp ?_ | refine w_chain ?_
          | refine w_anil ?_ | refine w_acons ?_ | refine w_tup ?_ | refine w_lst ?_ | refine w_sub ?_ | refine w_ono ?_ | refine w_oso ?_ | refine w_slice ?_ | refine w_blt ?_ | refine w_isi ?_
          | refine w_call ?_ | refine w_ckw ?_ | refine w_rvl ?_ | refine w_lrg ?_ | refine w_to ?_ | refine w_ft ?_ | refine w_it ?_ | refine w_rng ?_ | refine w_enu ?_ | refine w_comp ?_
          | refine w_tp ?_ | refine w_tnil ?_ | refine w_tcons ?_
          | refine w_var (d := _) rfl rfl ?_ | refine w_varO (d := _) rfl rfl ?_ | refine w_lnv (d := _) rfl rfl ?_ | refine w_sbv (d0 := _) rfl ?_ | refine w_cio (d0 := _) rfl ?_ | refine w_app (l0 := _) rfl ?_ | refine w_st (d0 := _) rfl ?_ | refine w_retv (d := _) rfl ?_
          | refine w_nm (Nat.le_of_ble_eq_true rfl) ?_
          | refine ex_some (o_add _ _) ?_ | refine ex_some (o_sub _ _) ?_ | refine ex_some rfl ?_ | refine ex_int ?_ | refine ex_lst ?_ | refine ex_sbv rfl rfl rfl ?_ | refine ex_st rfl rfl rfl ?_
          | (refine ⟨(Nat.le_of_ble_eq_true rfl : _ ≤ lim), ?_⟩)))
        refine ex_dec (fun h0 => ?_) (fun h0 => ?_)
        · exact (put l3 g3).mono fun f r ⟨ef, l2, G, er, g2, hG⟩ => by subst ef er; exact fin l2 G g2 hG
        · (repeat (first
            | refine w_bcons ?_ | refine w_asg ?_ | refine w_par ?_ | refine w_exp ?_ | refine w_ife ?_ | refine w_ret ?_ | refine w_bnil ?_ | refine w_brk ?_ | refine w_cnt ?_
            | refine w_con ?_ | refine w_bin ?_ | refine w_neg ?_ | refine w_not ?_ | refine w_and ?_ | refine w_or ?_ | refine w_ifx ?_ | refine w_cmp ?_ | refine w_chain ?_
            | refine w_anil ?_ | refine w_acons ?_ | refine w_tup ?_ | refine w_lst ?_ | refine w_sub ?_ | refine w_ono ?_ | refine w_oso ?_ | refine w_slice ?_ | refine w_blt ?_ | refine w_isi ?_
            | refine w_call ?_ | refine w_ckw ?_ | refine w_rvl ?_ | refine w_lrg ?_ | refine w_to ?_ | refine w_ft ?_ | refine w_it ?_ | refine w_rng ?_ | refine w_enu ?_ | refine w_comp ?_
            | refine w_tp ?_ | refine w_tnil ?_ | refine w_tcons ?_
            | refine w_var (d := _) rfl rfl ?_ | refine w_varO (d := _) rfl rfl ?_ | refine w_lnv (d := _) rfl rfl ?_ | refine w_sbv (d0 := _) rfl ?_ | refine w_cio (d0 := _) rfl ?_ | refine w_app (l0 := _) rfl ?_ | refine w_st (d0 := _) rfl ?_ | refine w_retv (d := _) rfl ?_
            | refine w_nm (Nat.le_of_ble_eq_true rfl) ?_
            | refine ex_some (o_add _ _) ?_ | refine ex_some (o_sub _ _) ?_ | refine ex_some rfl ?_ | refine ex_int ?_ | refine ex_lst ?_ | refine ex_sbv rfl rfl rfl ?_ | refine ex_st rfl rfl rfl ?_
            | (refine ⟨(Nat.le_of_ble_eq_true rfl : _ ≤ lim), ?_⟩)))
          refine ⟨_, rfl, F, l3, ?_, rfl, hF, g3⟩
          show D.tup (D.fzA (iA F)) = _
          rw [fzA_i]
theorem ow_ok (k : Nat) : OwOk (callN fs (k + 5)) := fun {p c n l} h hn hn2 hb => by
  rw [callN_eq (F := m__law_own_row) rfl]
  obtain ⟨d, x', e, row, l', rfl, rfl, hr, g⟩ := ownrow _ (all_ok (k + 1)) (sh_ok k) h hn hn2 hb
  exact ⟨row, l', e, hr, g⟩
def prime (p : Int) : Prop := p = 2 ∨ p = 3 ∨ p = 5 ∨ p = 7 ∨ p = 11 ∨ p = 13
theorem prime.pc {p c : Int} (hp : prime p) (h1 : 1 ≤ c) (h2 : c < p) : PC p c := pc_of (mem_prs hp h1 h2)
def SeOk (C : Fn) : Prop := ∀ {l : List D} (t : Int), Bg l → ∃ (p c : Int) (n : Nat) (l' : List D), C 21 [.lst true l, .int t] = some (.tup [.int p, .int n, .int c], [.lst true l']) ∧ prime p ∧ 1 ≤ c ∧ c < p ∧ 0 < n ∧ n ≤ 16 ∧ Bg l'
theorem setting (C : Fn) (A : All C) {l : List D} (t : Int) (hb : Bg l) :
    ∃ d x', runF C m__law_setting [.lst true l, .int t] = some (d, [x']) ∧ ∃ (p c n : Int) (l' : List D), d = .tup [.int p, .int n, .int c] ∧ x' = .lst true l' ∧ prime p ∧ 1 ≤ c ∧ c < p ∧ 0 < n ∧ n ≤ 16 ∧ Bg l' := by
  refine w_runio (Q := fun d x' => ∃ (p c n : Int) (l' : List D), d = .tup [.int p, .int n, .int c] ∧ x' = .lst true l' ∧ prime p ∧ 1 ≤ c ∧ c < p ∧ 0 < n ∧ n ≤ 16 ∧ Bg l') rfl (by decide) rfl ?_
  show wB C _ [some (.lst true l), some (.int t), none, none, none] _
  refine w_then (fun ρ => ∃ l p, ρ = [some (.lst true l), some (.int t), some (.int p), none, none] ∧ Bg l ∧ prime p ∧ (t = 2 → 3 ≤ p)) ?_ fun ρ ⟨l1, p, eρ, g1, hp, hp2⟩ => ?_
  · (repeat (first
      | refine w_bcons ?_ | refine w_asg ?_ | refine w_par ?_ | refine w_exp ?_ | refine w_ife ?_ | refine w_ret ?_ | refine w_bnil ?_ | refine w_brk ?_ | refine w_cnt ?_
      | refine w_con ?_ | refine w_bin ?_ | refine w_neg ?_ | refine w_not ?_ | refine w_and ?_ | refine w_or ?_ | refine w_ifx ?_ | refine w_cmp ?_ | refine w_chain ?_
      | refine w_anil ?_ | refine w_acons ?_ | refine w_tup ?_ | refine w_lst ?_ | refine w_sub ?_ | refine w_ono ?_ | refine w_oso ?_ | refine w_slice ?_ | refine w_blt ?_ | refine w_isi ?_
      | refine w_call ?_ | refine w_ckw ?_ | refine w_rvl ?_ | refine w_lrg ?_ | refine w_to ?_ | refine w_ft ?_ | refine w_it ?_ | refine w_rng ?_ | refine w_enu ?_ | refine w_comp ?_
      | refine w_tp ?_ | refine w_tnil ?_ | refine w_tcons ?_
      | refine w_var (d := _) rfl rfl ?_ | refine w_varO (d := _) rfl rfl ?_ | refine w_lnv (d := _) rfl rfl ?_ | refine w_sbv (d0 := _) rfl ?_ | refine w_cio (d0 := _) rfl ?_ | refine w_app (l0 := _) rfl ?_ | refine w_st (d0 := _) rfl ?_ | refine w_retv (d := _) rfl ?_
      | refine w_nm (Nat.le_of_ble_eq_true rfl) ?_
      | refine ex_some (o_add _ _) ?_ | refine ex_some (o_sub _ _) ?_ | refine ex_some rfl ?_ | refine ex_int ?_ | refine ex_lst ?_ | refine ex_sbv rfl rfl rfl ?_ | refine ex_st rfl rfl rfl ?_
      | (refine ⟨(Nat.le_of_ble_eq_true rfl : _ ≤ lim), ?_⟩)))
    by_cases h2 : t = 2
    · refine ⟨false, by simp [h2], fun h => (nomatch h), fun _ => ?_⟩
      (repeat (first
        | refine w_bcons ?_ | refine w_asg ?_ | refine w_par ?_ | refine w_exp ?_ | refine w_ife ?_ | refine w_ret ?_ | refine w_bnil ?_ | refine w_brk ?_ | refine w_cnt ?_
        | refine w_con ?_ | refine w_bin ?_ | refine w_neg ?_ | refine w_not ?_ | refine w_and ?_ | refine w_or ?_ | refine w_ifx ?_ | refine w_cmp ?_ | refine w_chain ?_
        | refine w_anil ?_ | refine w_acons ?_ | refine w_tup ?_ | refine w_lst ?_ | refine w_sub ?_ | refine w_ono ?_ | refine w_oso ?_ | refine w_slice ?_ | refine w_blt ?_ | refine w_isi ?_
        | refine w_call ?_ | refine w_ckw ?_ | refine w_rvl ?_ | refine w_lrg ?_ | refine w_to ?_ | refine w_ft ?_ | refine w_it ?_ | refine w_rng ?_ | refine w_enu ?_ | refine w_comp ?_
        | refine w_tp ?_ | refine w_tnil ?_ | refine w_tcons ?_
        | refine w_var (d := _) rfl rfl ?_ | refine w_varO (d := _) rfl rfl ?_ | refine w_lnv (d := _) rfl rfl ?_ | refine w_sbv (d0 := _) rfl ?_ | refine w_cio (d0 := _) rfl ?_ | refine w_app (l0 := _) rfl ?_ | refine w_st (d0 := _) rfl ?_ | refine w_retv (d := _) rfl ?_
        | refine w_nm (Nat.le_of_ble_eq_true rfl) ?_
        | refine ex_some (o_add _ _) ?_ | refine ex_some (o_sub _ _) ?_ | refine ex_some rfl ?_ | refine ex_int ?_ | refine ex_lst ?_ | refine ex_sbv rfl rfl rfl ?_ | refine ex_st rfl rfl rfl ?_
        | (refine ⟨(Nat.le_of_ble_eq_true rfl : _ ≤ lim), ?_⟩)))
      obtain ⟨z, l2, e2, hz, g2⟩ := A.pick l [.int 3, .int 5, .int 7, .int 11, .int 13] hb (by simp) (by decide) (by
        intro d hd
        simp only [List.mem_cons, List.not_mem_nil, or_false] at hd
        rcases hd with rfl | rfl | rfl | rfl | rfl <;> rfl)
      refine ⟨_, _, _, rfl, e2, ?_⟩
      have hi : ∃ i, z = .int i ∧ prime i ∧ 3 ≤ i := by
        simp only [List.mem_cons, List.not_mem_nil, or_false] at hz
        unfold prime
        rcases hz with rfl | rfl | rfl | rfl | rfl <;> exact ⟨_, rfl, by simp, by decide⟩
      obtain ⟨i, rfl, q3, q4⟩ := hi
      (repeat (first
        | refine w_bcons ?_ | refine w_asg ?_ | refine w_par ?_ | refine w_exp ?_ | refine w_ife ?_ | refine w_ret ?_ | refine w_bnil ?_ | refine w_brk ?_ | refine w_cnt ?_
        | refine w_con ?_ | refine w_bin ?_ | refine w_neg ?_ | refine w_not ?_ | refine w_and ?_ | refine w_or ?_ | refine w_ifx ?_ | refine w_cmp ?_ | refine w_chain ?_
        | refine w_anil ?_ | refine w_acons ?_ | refine w_tup ?_ | refine w_lst ?_ | refine w_sub ?_ | refine w_ono ?_ | refine w_oso ?_ | refine w_slice ?_ | refine w_blt ?_ | refine w_isi ?_
        | refine w_call ?_ | refine w_ckw ?_ | refine w_rvl ?_ | refine w_lrg ?_ | refine w_to ?_ | refine w_ft ?_ | refine w_it ?_ | refine w_rng ?_ | refine w_enu ?_ | refine w_comp ?_
        | refine w_tp ?_ | refine w_tnil ?_ | refine w_tcons ?_
        | refine w_var (d := _) rfl rfl ?_ | refine w_varO (d := _) rfl rfl ?_ | refine w_lnv (d := _) rfl rfl ?_ | refine w_sbv (d0 := _) rfl ?_ | refine w_cio (d0 := _) rfl ?_ | refine w_app (l0 := _) rfl ?_ | refine w_st (d0 := _) rfl ?_ | refine w_retv (d := _) rfl ?_
        | refine w_nm (Nat.le_of_ble_eq_true rfl) ?_
        | refine ex_some (o_add _ _) ?_ | refine ex_some (o_sub _ _) ?_ | refine ex_some rfl ?_ | refine ex_int ?_ | refine ex_lst ?_ | refine ex_sbv rfl rfl rfl ?_ | refine ex_st rfl rfl rfl ?_
        | (refine ⟨(Nat.le_of_ble_eq_true rfl : _ ≤ lim), ?_⟩)))
      exact ⟨rfl, l2, i, rfl, g2, q3, fun _ => q4⟩
    · refine ⟨true, by simp [h2], fun _ => ?_, fun h => (nomatch h)⟩
      (repeat (first
        | refine w_bcons ?_ | refine w_asg ?_ | refine w_par ?_ | refine w_exp ?_ | refine w_ife ?_ | refine w_ret ?_ | refine w_bnil ?_ | refine w_brk ?_ | refine w_cnt ?_
        | refine w_con ?_ | refine w_bin ?_ | refine w_neg ?_ | refine w_not ?_ | refine w_and ?_ | refine w_or ?_ | refine w_ifx ?_ | refine w_cmp ?_ | refine w_chain ?_
        | refine w_anil ?_ | refine w_acons ?_ | refine w_tup ?_ | refine w_lst ?_ | refine w_sub ?_ | refine w_ono ?_ | refine w_oso ?_ | refine w_slice ?_ | refine w_blt ?_ | refine w_isi ?_
        | refine w_call ?_ | refine w_ckw ?_ | refine w_rvl ?_ | refine w_lrg ?_ | refine w_to ?_ | refine w_ft ?_ | refine w_it ?_ | refine w_rng ?_ | refine w_enu ?_ | refine w_comp ?_
        | refine w_tp ?_ | refine w_tnil ?_ | refine w_tcons ?_
        | refine w_var (d := _) rfl rfl ?_ | refine w_varO (d := _) rfl rfl ?_ | refine w_lnv (d := _) rfl rfl ?_ | refine w_sbv (d0 := _) rfl ?_ | refine w_cio (d0 := _) rfl ?_ | refine w_app (l0 := _) rfl ?_ | refine w_st (d0 := _) rfl ?_ | refine w_retv (d := _) rfl ?_
        | refine w_nm (Nat.le_of_ble_eq_true rfl) ?_
        | refine ex_some (o_add _ _) ?_ | refine ex_some (o_sub _ _) ?_ | refine ex_some rfl ?_ | refine ex_int ?_ | refine ex_lst ?_ | refine ex_sbv rfl rfl rfl ?_ | refine ex_st rfl rfl rfl ?_
        | (refine ⟨(Nat.le_of_ble_eq_true rfl : _ ≤ lim), ?_⟩)))
      obtain ⟨z, l2, e2, hz, g2⟩ := A.pick l [.int 2, .int 3, .int 5, .int 7, .int 11, .int 13] hb (by simp) (by decide) (by
        intro d hd
        simp only [List.mem_cons, List.not_mem_nil, or_false] at hd
        rcases hd with rfl | rfl | rfl | rfl | rfl | rfl <;> rfl)
      refine ⟨_, _, _, rfl, e2, ?_⟩
      have hi : ∃ i, z = .int i ∧ prime i := by
        simp only [List.mem_cons, List.not_mem_nil, or_false] at hz
        unfold prime
        rcases hz with rfl | rfl | rfl | rfl | rfl | rfl <;> exact ⟨_, rfl, by simp⟩
      obtain ⟨i, rfl, q3⟩ := hi
      (repeat (first
        | refine w_bcons ?_ | refine w_asg ?_ | refine w_par ?_ | refine w_exp ?_ | refine w_ife ?_ | refine w_ret ?_ | refine w_bnil ?_ | refine w_brk ?_ | refine w_cnt ?_
        | refine w_con ?_ | refine w_bin ?_ | refine w_neg ?_ | refine w_not ?_ | refine w_and ?_ | refine w_or ?_ | refine w_ifx ?_ | refine w_cmp ?_ | refine w_chain ?_
        | refine w_anil ?_ | refine w_acons ?_ | refine w_tup ?_ | refine w_lst ?_ | refine w_sub ?_ | refine w_ono ?_ | refine w_oso ?_ | refine w_slice ?_ | refine w_blt ?_ | refine w_isi ?_
        | refine w_call ?_ | refine w_ckw ?_ | refine w_rvl ?_ | refine w_lrg ?_ | refine w_to ?_ | refine w_ft ?_ | refine w_it ?_ | refine w_rng ?_ | refine w_enu ?_ | refine w_comp ?_
        | refine w_tp ?_ | refine w_tnil ?_ | refine w_tcons ?_
        | refine w_var (d := _) rfl rfl ?_ | refine w_varO (d := _) rfl rfl ?_ | refine w_lnv (d := _) rfl rfl ?_ | refine w_sbv (d0 := _) rfl ?_ | refine w_cio (d0 := _) rfl ?_ | refine w_app (l0 := _) rfl ?_ | refine w_st (d0 := _) rfl ?_ | refine w_retv (d := _) rfl ?_
        | refine w_nm (Nat.le_of_ble_eq_true rfl) ?_
        | refine ex_some (o_add _ _) ?_ | refine ex_some (o_sub _ _) ?_ | refine ex_some rfl ?_ | refine ex_int ?_ | refine ex_lst ?_ | refine ex_sbv rfl rfl rfl ?_ | refine ex_st rfl rfl rfl ?_
        | (refine ⟨(Nat.le_of_ble_eq_true rfl : _ ≤ lim), ?_⟩)))
      exact ⟨rfl, l2, i, rfl, g2, q3, fun h => absurd h h2⟩
  · subst eρ
    have hp13 : 2 ≤ p ∧ p ≤ 13 := by unfold prime at hp; omega
    refine w_then (fun ρ => ∃ l n, ρ = [some (.lst true l), some (.int t), some (.int p), some (.int n), none] ∧ Bg l ∧ 0 < n ∧ n ≤ 16) ?_ fun ρ ⟨l2, n, eρ, g2, n1, n2⟩ => ?_
    · (repeat (first
        | refine w_bcons ?_ | refine w_asg ?_ | refine w_par ?_ | refine w_exp ?_ | refine w_ife ?_ | refine w_ret ?_ | refine w_bnil ?_ | refine w_brk ?_ | refine w_cnt ?_
        | refine w_con ?_ | refine w_bin ?_ | refine w_neg ?_ | refine w_not ?_ | refine w_and ?_ | refine w_or ?_ | refine w_ifx ?_ | refine w_cmp ?_ | refine w_chain ?_
        | refine w_anil ?_ | refine w_acons ?_ | refine w_tup ?_ | refine w_lst ?_ | refine w_sub ?_ | refine w_ono ?_ | refine w_oso ?_ | refine w_slice ?_ | refine w_blt ?_ | refine w_isi ?_
        | refine w_call ?_ | refine w_ckw ?_ | refine w_rvl ?_ | refine w_lrg ?_ | refine w_to ?_ | refine w_ft ?_ | refine w_it ?_ | refine w_rng ?_ | refine w_enu ?_ | refine w_comp ?_
        | refine w_tp ?_ | refine w_tnil ?_ | refine w_tcons ?_
        | refine w_var (d := _) rfl rfl ?_ | refine w_varO (d := _) rfl rfl ?_ | refine w_lnv (d := _) rfl rfl ?_ | refine w_sbv (d0 := _) rfl ?_ | refine w_cio (d0 := _) rfl ?_ | refine w_app (l0 := _) rfl ?_ | refine w_st (d0 := _) rfl ?_ | refine w_retv (d := _) rfl ?_
        | refine w_nm (Nat.le_of_ble_eq_true rfl) ?_
        | refine ex_some (o_add _ _) ?_ | refine ex_some (o_sub _ _) ?_ | refine ex_some rfl ?_ | refine ex_int ?_ | refine ex_lst ?_ | refine ex_sbv rfl rfl rfl ?_ | refine ex_st rfl rfl rfl ?_
        | (refine ⟨(Nat.le_of_ble_eq_true rfl : _ ≤ lim), ?_⟩)))
      obtain ⟨r, l2, e2, q1, q2, g2⟩ := A.draw l1 16 g1 (by decide) (by decide)
      refine ⟨_, _, _, rfl, e2, ?_⟩
      (repeat (first
        | refine w_bcons ?_ | refine w_asg ?_ | refine w_par ?_ | refine w_exp ?_ | refine w_ife ?_ | refine w_ret ?_ | refine w_bnil ?_ | refine w_brk ?_ | refine w_cnt ?_
        | refine w_con ?_ | refine w_bin ?_ | refine w_neg ?_ | refine w_not ?_ | refine w_and ?_ | refine w_or ?_ | refine w_ifx ?_ | refine w_cmp ?_ | refine w_chain ?_
        | refine w_anil ?_ | refine w_acons ?_ | refine w_tup ?_ | refine w_lst ?_ | refine w_sub ?_ | refine w_ono ?_ | refine w_oso ?_ | refine w_slice ?_ | refine w_blt ?_ | refine w_isi ?_
        | refine w_call ?_ | refine w_ckw ?_ | refine w_rvl ?_ | refine w_lrg ?_ | refine w_to ?_ | refine w_ft ?_ | refine w_it ?_ | refine w_rng ?_ | refine w_enu ?_ | refine w_comp ?_
        | refine w_tp ?_ | refine w_tnil ?_ | refine w_tcons ?_
        | refine w_var (d := _) rfl rfl ?_ | refine w_varO (d := _) rfl rfl ?_ | refine w_lnv (d := _) rfl rfl ?_ | refine w_sbv (d0 := _) rfl ?_ | refine w_cio (d0 := _) rfl ?_ | refine w_app (l0 := _) rfl ?_ | refine w_st (d0 := _) rfl ?_ | refine w_retv (d := _) rfl ?_
        | refine w_nm (Nat.le_of_ble_eq_true rfl) ?_
        | refine ex_some (o_add _ _) ?_ | refine ex_some (o_sub _ _) ?_ | refine ex_some rfl ?_ | refine ex_int ?_ | refine ex_lst ?_ | refine ex_sbv rfl rfl rfl ?_ | refine ex_st rfl rfl rfl ?_
        | (refine ⟨(Nat.le_of_ble_eq_true rfl : _ ≤ lim), ?_⟩)))
      exact ⟨rfl, l2, 1 + r, rfl, g2, by omega, by omega⟩
    · subst eρ
      refine w_then (fun ρ => ∃ l c, ρ = [some (.lst true l), some (.int t), some (.int p), some (.int n), some (.int c)] ∧ Bg l ∧ 1 ≤ c ∧ c < p) ?_ fun ρ ⟨l3, c, eρ, g3, c1, c2⟩ => ?_
      · (repeat (first
          | refine w_bcons ?_ | refine w_asg ?_ | refine w_par ?_ | refine w_exp ?_ | refine w_ife ?_ | refine w_ret ?_ | refine w_bnil ?_ | refine w_brk ?_ | refine w_cnt ?_
          | refine w_con ?_ | refine w_bin ?_ | refine w_neg ?_ | refine w_not ?_ | refine w_and ?_ | refine w_or ?_ | refine w_ifx ?_ | refine w_cmp ?_ | refine w_chain ?_
          | refine w_anil ?_ | refine w_acons ?_ | refine w_tup ?_ | refine w_lst ?_ | refine w_sub ?_ | refine w_ono ?_ | refine w_oso ?_ | refine w_slice ?_ | refine w_blt ?_ | refine w_isi ?_
          | refine w_call ?_ | refine w_ckw ?_ | refine w_rvl ?_ | refine w_lrg ?_ | refine w_to ?_ | refine w_ft ?_ | refine w_it ?_ | refine w_rng ?_ | refine w_enu ?_ | refine w_comp ?_
          | refine w_tp ?_ | refine w_tnil ?_ | refine w_tcons ?_
          | refine w_var (d := _) rfl rfl ?_ | refine w_varO (d := _) rfl rfl ?_ | refine w_lnv (d := _) rfl rfl ?_ | refine w_sbv (d0 := _) rfl ?_ | refine w_cio (d0 := _) rfl ?_ | refine w_app (l0 := _) rfl ?_ | refine w_st (d0 := _) rfl ?_ | refine w_retv (d := _) rfl ?_
          | refine w_nm (Nat.le_of_ble_eq_true rfl) ?_
          | refine ex_some (o_add _ _) ?_ | refine ex_some (o_sub _ _) ?_ | refine ex_some rfl ?_ | refine ex_int ?_ | refine ex_lst ?_ | refine ex_sbv rfl rfl rfl ?_ | refine ex_st rfl rfl rfl ?_
          | (refine ⟨(Nat.le_of_ble_eq_true rfl : _ ≤ lim), ?_⟩)))
        by_cases h2 : t = 2
        · refine ⟨false, by simp [h2], fun h => (nomatch h), fun _ => ?_⟩
          have := hp2 h2
          (repeat (first
            | refine w_bcons ?_ | refine w_asg ?_ | refine w_par ?_ | refine w_exp ?_ | refine w_ife ?_ | refine w_ret ?_ | refine w_bnil ?_ | refine w_brk ?_ | refine w_cnt ?_
            | refine w_con ?_ | refine w_bin ?_ | refine w_neg ?_ | refine w_not ?_ | refine w_and ?_ | refine w_or ?_ | refine w_ifx ?_ | refine w_cmp ?_ | refine w_chain ?_
            | refine w_anil ?_ | refine w_acons ?_ | refine w_tup ?_ | refine w_lst ?_ | refine w_sub ?_ | refine w_ono ?_ | refine w_oso ?_ | refine w_slice ?_ | refine w_blt ?_ | refine w_isi ?_
            | refine w_call ?_ | refine w_ckw ?_ | refine w_rvl ?_ | refine w_lrg ?_ | refine w_to ?_ | refine w_ft ?_ | refine w_it ?_ | refine w_rng ?_ | refine w_enu ?_ | refine w_comp ?_
            | refine w_tp ?_ | refine w_tnil ?_ | refine w_tcons ?_
            | refine w_var (d := _) rfl rfl ?_ | refine w_varO (d := _) rfl rfl ?_ | refine w_lnv (d := _) rfl rfl ?_ | refine w_sbv (d0 := _) rfl ?_ | refine w_cio (d0 := _) rfl ?_ | refine w_app (l0 := _) rfl ?_ | refine w_st (d0 := _) rfl ?_ | refine w_retv (d := _) rfl ?_
            | refine w_nm (Nat.le_of_ble_eq_true rfl) ?_
            | refine ex_some (o_add _ _) ?_ | refine ex_some (o_sub _ _) ?_ | refine ex_some rfl ?_ | refine ex_int ?_ | refine ex_lst ?_ | refine ex_sbv rfl rfl rfl ?_ | refine ex_st rfl rfl rfl ?_
            | (refine ⟨(Nat.le_of_ble_eq_true rfl : _ ≤ lim), ?_⟩)))
          obtain ⟨r3, l3, e3, q3, q4, g3⟩ := A.draw l2 (p - 2) g2 (by omega) (by omega)
          refine ⟨_, _, _, rfl, e3, ?_⟩
          (repeat (first
            | refine w_bcons ?_ | refine w_asg ?_ | refine w_par ?_ | refine w_exp ?_ | refine w_ife ?_ | refine w_ret ?_ | refine w_bnil ?_ | refine w_brk ?_ | refine w_cnt ?_
            | refine w_con ?_ | refine w_bin ?_ | refine w_neg ?_ | refine w_not ?_ | refine w_and ?_ | refine w_or ?_ | refine w_ifx ?_ | refine w_cmp ?_ | refine w_chain ?_
            | refine w_anil ?_ | refine w_acons ?_ | refine w_tup ?_ | refine w_lst ?_ | refine w_sub ?_ | refine w_ono ?_ | refine w_oso ?_ | refine w_slice ?_ | refine w_blt ?_ | refine w_isi ?_
            | refine w_call ?_ | refine w_ckw ?_ | refine w_rvl ?_ | refine w_lrg ?_ | refine w_to ?_ | refine w_ft ?_ | refine w_it ?_ | refine w_rng ?_ | refine w_enu ?_ | refine w_comp ?_
            | refine w_tp ?_ | refine w_tnil ?_ | refine w_tcons ?_
            | refine w_var (d := _) rfl rfl ?_ | refine w_varO (d := _) rfl rfl ?_ | refine w_lnv (d := _) rfl rfl ?_ | refine w_sbv (d0 := _) rfl ?_ | refine w_cio (d0 := _) rfl ?_ | refine w_app (l0 := _) rfl ?_ | refine w_st (d0 := _) rfl ?_ | refine w_retv (d := _) rfl ?_
            | refine w_nm (Nat.le_of_ble_eq_true rfl) ?_
            | refine ex_some (o_add _ _) ?_ | refine ex_some (o_sub _ _) ?_ | refine ex_some rfl ?_ | refine ex_int ?_ | refine ex_lst ?_ | refine ex_sbv rfl rfl rfl ?_ | refine ex_st rfl rfl rfl ?_
            | (refine ⟨(Nat.le_of_ble_eq_true rfl : _ ≤ lim), ?_⟩)))
          exact ⟨rfl, l3, 2 + r3, rfl, g3, by omega, by omega⟩
        · refine ⟨true, by simp [h2], fun _ => ?_, fun h => (nomatch h)⟩
          (repeat (first
            | refine w_bcons ?_ | refine w_asg ?_ | refine w_par ?_ | refine w_exp ?_ | refine w_ife ?_ | refine w_ret ?_ | refine w_bnil ?_ | refine w_brk ?_ | refine w_cnt ?_
            | refine w_con ?_ | refine w_bin ?_ | refine w_neg ?_ | refine w_not ?_ | refine w_and ?_ | refine w_or ?_ | refine w_ifx ?_ | refine w_cmp ?_ | refine w_chain ?_
            | refine w_anil ?_ | refine w_acons ?_ | refine w_tup ?_ | refine w_lst ?_ | refine w_sub ?_ | refine w_ono ?_ | refine w_oso ?_ | refine w_slice ?_ | refine w_blt ?_ | refine w_isi ?_
            | refine w_call ?_ | refine w_ckw ?_ | refine w_rvl ?_ | refine w_lrg ?_ | refine w_to ?_ | refine w_ft ?_ | refine w_it ?_ | refine w_rng ?_ | refine w_enu ?_ | refine w_comp ?_
            | refine w_tp ?_ | refine w_tnil ?_ | refine w_tcons ?_
            | refine w_var (d := _) rfl rfl ?_ | refine w_varO (d := _) rfl rfl ?_ | refine w_lnv (d := _) rfl rfl ?_ | refine w_sbv (d0 := _) rfl ?_ | refine w_cio (d0 := _) rfl ?_ | refine w_app (l0 := _) rfl ?_ | refine w_st (d0 := _) rfl ?_ | refine w_retv (d := _) rfl ?_
            | refine w_nm (Nat.le_of_ble_eq_true rfl) ?_
            | refine ex_some (o_add _ _) ?_ | refine ex_some (o_sub _ _) ?_ | refine ex_some rfl ?_ | refine ex_int ?_ | refine ex_lst ?_ | refine ex_sbv rfl rfl rfl ?_ | refine ex_st rfl rfl rfl ?_
            | (refine ⟨(Nat.le_of_ble_eq_true rfl : _ ≤ lim), ?_⟩)))
          obtain ⟨r3, l3, e3, q3, q4, g3⟩ := A.draw l2 (p - 1) g2 (by omega) (by omega)
          refine ⟨_, _, _, rfl, e3, ?_⟩
          (repeat (first
            | refine w_bcons ?_ | refine w_asg ?_ | refine w_par ?_ | refine w_exp ?_ | refine w_ife ?_ | refine w_ret ?_ | refine w_bnil ?_ | refine w_brk ?_ | refine w_cnt ?_
            | refine w_con ?_ | refine w_bin ?_ | refine w_neg ?_ | refine w_not ?_ | refine w_and ?_ | refine w_or ?_ | refine w_ifx ?_ | refine w_cmp ?_ | refine w_chain ?_
            | refine w_anil ?_ | refine w_acons ?_ | refine w_tup ?_ | refine w_lst ?_ | refine w_sub ?_ | refine w_ono ?_ | refine w_oso ?_ | refine w_slice ?_ | refine w_blt ?_ | refine w_isi ?_
            | refine w_call ?_ | refine w_ckw ?_ | refine w_rvl ?_ | refine w_lrg ?_ | refine w_to ?_ | refine w_ft ?_ | refine w_it ?_ | refine w_rng ?_ | refine w_enu ?_ | refine w_comp ?_
            | refine w_tp ?_ | refine w_tnil ?_ | refine w_tcons ?_
            | refine w_var (d := _) rfl rfl ?_ | refine w_varO (d := _) rfl rfl ?_ | refine w_lnv (d := _) rfl rfl ?_ | refine w_sbv (d0 := _) rfl ?_ | refine w_cio (d0 := _) rfl ?_ | refine w_app (l0 := _) rfl ?_ | refine w_st (d0 := _) rfl ?_ | refine w_retv (d := _) rfl ?_
            | refine w_nm (Nat.le_of_ble_eq_true rfl) ?_
            | refine ex_some (o_add _ _) ?_ | refine ex_some (o_sub _ _) ?_ | refine ex_some rfl ?_ | refine ex_int ?_ | refine ex_lst ?_ | refine ex_sbv rfl rfl rfl ?_ | refine ex_st rfl rfl rfl ?_
            | (refine ⟨(Nat.le_of_ble_eq_true rfl : _ ≤ lim), ?_⟩)))
          exact ⟨rfl, l3, 1 + r3, rfl, g3, by omega, by omega⟩
      · subst eρ
        (repeat (first
          | refine w_bcons ?_ | refine w_asg ?_ | refine w_par ?_ | refine w_exp ?_ | refine w_ife ?_ | refine w_ret ?_ | refine w_bnil ?_ | refine w_brk ?_ | refine w_cnt ?_
          | refine w_con ?_ | refine w_bin ?_ | refine w_neg ?_ | refine w_not ?_ | refine w_and ?_ | refine w_or ?_ | refine w_ifx ?_ | refine w_cmp ?_ | refine w_chain ?_
          | refine w_anil ?_ | refine w_acons ?_ | refine w_tup ?_ | refine w_lst ?_ | refine w_sub ?_ | refine w_ono ?_ | refine w_oso ?_ | refine w_slice ?_ | refine w_blt ?_ | refine w_isi ?_
          | refine w_call ?_ | refine w_ckw ?_ | refine w_rvl ?_ | refine w_lrg ?_ | refine w_to ?_ | refine w_ft ?_ | refine w_it ?_ | refine w_rng ?_ | refine w_enu ?_ | refine w_comp ?_
          | refine w_tp ?_ | refine w_tnil ?_ | refine w_tcons ?_
          | refine w_var (d := _) rfl rfl ?_ | refine w_varO (d := _) rfl rfl ?_ | refine w_lnv (d := _) rfl rfl ?_ | refine w_sbv (d0 := _) rfl ?_ | refine w_cio (d0 := _) rfl ?_ | refine w_app (l0 := _) rfl ?_ | refine w_st (d0 := _) rfl ?_ | refine w_retv (d := _) rfl ?_
          | refine w_nm (Nat.le_of_ble_eq_true rfl) ?_
          | refine ex_some (o_add _ _) ?_ | refine ex_some (o_sub _ _) ?_ | refine ex_some rfl ?_ | refine ex_int ?_ | refine ex_lst ?_ | refine ex_sbv rfl rfl rfl ?_ | refine ex_st rfl rfl rfl ?_
          | (refine ⟨(Nat.le_of_ble_eq_true rfl : _ ≤ lim), ?_⟩)))
        refine ex_dec (fun h0 => ?_) (fun h0 => ?_)
        · (repeat (first
            | refine w_bcons ?_ | refine w_asg ?_ | refine w_par ?_ | refine w_exp ?_ | refine w_ife ?_ | refine w_ret ?_ | refine w_bnil ?_ | refine w_brk ?_ | refine w_cnt ?_
            | refine w_con ?_ | refine w_bin ?_ | refine w_neg ?_ | refine w_not ?_ | refine w_and ?_ | refine w_or ?_ | refine w_ifx ?_ | refine w_cmp ?_ | refine w_chain ?_
            | refine w_anil ?_ | refine w_acons ?_ | refine w_tup ?_ | refine w_lst ?_ | refine w_sub ?_ | refine w_ono ?_ | refine w_oso ?_ | refine w_slice ?_ | refine w_blt ?_ | refine w_isi ?_
            | refine w_call ?_ | refine w_ckw ?_ | refine w_rvl ?_ | refine w_lrg ?_ | refine w_to ?_ | refine w_ft ?_ | refine w_it ?_ | refine w_rng ?_ | refine w_enu ?_ | refine w_comp ?_
            | refine w_tp ?_ | refine w_tnil ?_ | refine w_tcons ?_
            | refine w_var (d := _) rfl rfl ?_ | refine w_varO (d := _) rfl rfl ?_ | refine w_lnv (d := _) rfl rfl ?_ | refine w_sbv (d0 := _) rfl ?_ | refine w_cio (d0 := _) rfl ?_ | refine w_app (l0 := _) rfl ?_ | refine w_st (d0 := _) rfl ?_ | refine w_retv (d := _) rfl ?_
            | refine w_nm (Nat.le_of_ble_eq_true rfl) ?_
            | refine ex_some (o_add _ _) ?_ | refine ex_some (o_sub _ _) ?_ | refine ex_some rfl ?_ | refine ex_int ?_ | refine ex_lst ?_ | refine ex_sbv rfl rfl rfl ?_ | refine ex_st rfl rfl rfl ?_
            | (refine ⟨(Nat.le_of_ble_eq_true rfl : _ ≤ lim), ?_⟩)))
          obtain ⟨r4, l4, e4, q3, q4, g4⟩ := A.draw l3 12 g3 (by decide) (by decide)
          refine ⟨_, _, _, rfl, e4, ?_⟩
          (repeat (first
            | refine w_bcons ?_ | refine w_asg ?_ | refine w_par ?_ | refine w_exp ?_ | refine w_ife ?_ | refine w_ret ?_ | refine w_bnil ?_ | refine w_brk ?_ | refine w_cnt ?_
            | refine w_con ?_ | refine w_bin ?_ | refine w_neg ?_ | refine w_not ?_ | refine w_and ?_ | refine w_or ?_ | refine w_ifx ?_ | refine w_cmp ?_ | refine w_chain ?_
            | refine w_anil ?_ | refine w_acons ?_ | refine w_tup ?_ | refine w_lst ?_ | refine w_sub ?_ | refine w_ono ?_ | refine w_oso ?_ | refine w_slice ?_ | refine w_blt ?_ | refine w_isi ?_
            | refine w_call ?_ | refine w_ckw ?_ | refine w_rvl ?_ | refine w_lrg ?_ | refine w_to ?_ | refine w_ft ?_ | refine w_it ?_ | refine w_rng ?_ | refine w_enu ?_ | refine w_comp ?_
            | refine w_tp ?_ | refine w_tnil ?_ | refine w_tcons ?_
            | refine w_var (d := _) rfl rfl ?_ | refine w_varO (d := _) rfl rfl ?_ | refine w_lnv (d := _) rfl rfl ?_ | refine w_sbv (d0 := _) rfl ?_ | refine w_cio (d0 := _) rfl ?_ | refine w_app (l0 := _) rfl ?_ | refine w_st (d0 := _) rfl ?_ | refine w_retv (d := _) rfl ?_
            | refine w_nm (Nat.le_of_ble_eq_true rfl) ?_
            | refine ex_some (o_add _ _) ?_ | refine ex_some (o_sub _ _) ?_ | refine ex_some rfl ?_ | refine ex_int ?_ | refine ex_lst ?_ | refine ex_sbv rfl rfl rfl ?_ | refine ex_st rfl rfl rfl ?_
            | (refine ⟨(Nat.le_of_ble_eq_true rfl : _ ≤ lim), ?_⟩)))
          exact ⟨_, rfl, 13, 1 + r4, 16, l4, rfl, rfl, by unfold prime; simp, by omega, by omega, by decide, by decide, g4⟩
        · refine w_bnil ?_
          refine w_then (fun ρ => ∃ l n, ρ = [some (.lst true l), some (.int t), some (.int p), some (.int n), some (.int c)] ∧ Bg l ∧ 0 < n ∧ n ≤ 16) ?_ fun ρ ⟨l4, n, eρ, g4, n1, n2⟩ => ?_
          · (repeat (first
              | refine w_bcons ?_ | refine w_asg ?_ | refine w_par ?_ | refine w_exp ?_ | refine w_ife ?_ | refine w_ret ?_ | refine w_bnil ?_ | refine w_brk ?_ | refine w_cnt ?_
              | refine w_con ?_ | refine w_bin ?_ | refine w_neg ?_ | refine w_not ?_ | refine w_and ?_ | refine w_or ?_ | refine w_ifx ?_ | refine w_cmp ?_ | refine w_chain ?_
              | refine w_anil ?_ | refine w_acons ?_ | refine w_tup ?_ | refine w_lst ?_ | refine w_sub ?_ | refine w_ono ?_ | refine w_oso ?_ | refine w_slice ?_ | refine w_blt ?_ | refine w_isi ?_
              | refine w_call ?_ | refine w_ckw ?_ | refine w_rvl ?_ | refine w_lrg ?_ | refine w_to ?_ | refine w_ft ?_ | refine w_it ?_ | refine w_rng ?_ | refine w_enu ?_ | refine w_comp ?_
              | refine w_tp ?_ | refine w_tnil ?_ | refine w_tcons ?_
              | refine w_var (d := _) rfl rfl ?_ | refine w_varO (d := _) rfl rfl ?_ | refine w_lnv (d := _) rfl rfl ?_ | refine w_sbv (d0 := _) rfl ?_ | refine w_cio (d0 := _) rfl ?_ | refine w_app (l0 := _) rfl ?_ | refine w_st (d0 := _) rfl ?_ | refine w_retv (d := _) rfl ?_
              | refine w_nm (Nat.le_of_ble_eq_true rfl) ?_
              | refine ex_some (o_add _ _) ?_ | refine ex_some (o_sub _ _) ?_ | refine ex_some rfl ?_ | refine ex_int ?_ | refine ex_lst ?_ | refine ex_sbv rfl rfl rfl ?_ | refine ex_st rfl rfl rfl ?_
              | (refine ⟨(Nat.le_of_ble_eq_true rfl : _ ≤ lim), ?_⟩)))
            refine ex_dec (fun h3 => ?_) (fun h3 => ?_)
            · (repeat (first
                | refine w_bcons ?_ | refine w_asg ?_ | refine w_par ?_ | refine w_exp ?_ | refine w_ife ?_ | refine w_ret ?_ | refine w_bnil ?_ | refine w_brk ?_ | refine w_cnt ?_
                | refine w_con ?_ | refine w_bin ?_ | refine w_neg ?_ | refine w_not ?_ | refine w_and ?_ | refine w_or ?_ | refine w_ifx ?_ | refine w_cmp ?_ | refine w_chain ?_
                | refine w_anil ?_ | refine w_acons ?_ | refine w_tup ?_ | refine w_lst ?_ | refine w_sub ?_ | refine w_ono ?_ | refine w_oso ?_ | refine w_slice ?_ | refine w_blt ?_ | refine w_isi ?_
                | refine w_call ?_ | refine w_ckw ?_ | refine w_rvl ?_ | refine w_lrg ?_ | refine w_to ?_ | refine w_ft ?_ | refine w_it ?_ | refine w_rng ?_ | refine w_enu ?_ | refine w_comp ?_
                | refine w_tp ?_ | refine w_tnil ?_ | refine w_tcons ?_
                | refine w_var (d := _) rfl rfl ?_ | refine w_varO (d := _) rfl rfl ?_ | refine w_lnv (d := _) rfl rfl ?_ | refine w_sbv (d0 := _) rfl ?_ | refine w_cio (d0 := _) rfl ?_ | refine w_app (l0 := _) rfl ?_ | refine w_st (d0 := _) rfl ?_ | refine w_retv (d := _) rfl ?_
                | refine w_nm (Nat.le_of_ble_eq_true rfl) ?_
                | refine ex_some (o_add _ _) ?_ | refine ex_some (o_sub _ _) ?_ | refine ex_some rfl ?_ | refine ex_int ?_ | refine ex_lst ?_ | refine ex_sbv rfl rfl rfl ?_ | refine ex_st rfl rfl rfl ?_
                | (refine ⟨(Nat.le_of_ble_eq_true rfl : _ ≤ lim), ?_⟩)))
              obtain ⟨r4, l4, e4, q3, q4, g4⟩ := A.draw l3 4 g3 (by decide) (by decide)
              refine ⟨_, _, _, rfl, e4, ?_⟩
              (repeat (first
                | refine w_bcons ?_ | refine w_asg ?_ | refine w_par ?_ | refine w_exp ?_ | refine w_ife ?_ | refine w_ret ?_ | refine w_bnil ?_ | refine w_brk ?_ | refine w_cnt ?_
                | refine w_con ?_ | refine w_bin ?_ | refine w_neg ?_ | refine w_not ?_ | refine w_and ?_ | refine w_or ?_ | refine w_ifx ?_ | refine w_cmp ?_ | refine w_chain ?_
                | refine w_anil ?_ | refine w_acons ?_ | refine w_tup ?_ | refine w_lst ?_ | refine w_sub ?_ | refine w_ono ?_ | refine w_oso ?_ | refine w_slice ?_ | refine w_blt ?_ | refine w_isi ?_
                | refine w_call ?_ | refine w_ckw ?_ | refine w_rvl ?_ | refine w_lrg ?_ | refine w_to ?_ | refine w_ft ?_ | refine w_it ?_ | refine w_rng ?_ | refine w_enu ?_ | refine w_comp ?_
                | refine w_tp ?_ | refine w_tnil ?_ | refine w_tcons ?_
                | refine w_var (d := _) rfl rfl ?_ | refine w_varO (d := _) rfl rfl ?_ | refine w_lnv (d := _) rfl rfl ?_ | refine w_sbv (d0 := _) rfl ?_ | refine w_cio (d0 := _) rfl ?_ | refine w_app (l0 := _) rfl ?_ | refine w_st (d0 := _) rfl ?_ | refine w_retv (d := _) rfl ?_
                | refine w_nm (Nat.le_of_ble_eq_true rfl) ?_
                | refine ex_some (o_add _ _) ?_ | refine ex_some (o_sub _ _) ?_ | refine ex_some rfl ?_ | refine ex_int ?_ | refine ex_lst ?_ | refine ex_sbv rfl rfl rfl ?_ | refine ex_st rfl rfl rfl ?_
                | (refine ⟨(Nat.le_of_ble_eq_true rfl : _ ≤ lim), ?_⟩)))
              exact ⟨rfl, l4, 16 - r4, rfl, g4, by omega, by omega⟩
            · exact w_bnil ⟨rfl, l3, n, rfl, g3, n1, n2⟩
          · subst eρ
            (repeat (first
              | refine w_bcons ?_ | refine w_asg ?_ | refine w_par ?_ | refine w_exp ?_ | refine w_ife ?_ | refine w_ret ?_ | refine w_bnil ?_ | refine w_brk ?_ | refine w_cnt ?_
              | refine w_con ?_ | refine w_bin ?_ | refine w_neg ?_ | refine w_not ?_ | refine w_and ?_ | refine w_or ?_ | refine w_ifx ?_ | refine w_cmp ?_ | refine w_chain ?_
              | refine w_anil ?_ | refine w_acons ?_ | refine w_tup ?_ | refine w_lst ?_ | refine w_sub ?_ | refine w_ono ?_ | refine w_oso ?_ | refine w_slice ?_ | refine w_blt ?_ | refine w_isi ?_
              | refine w_call ?_ | refine w_ckw ?_ | refine w_rvl ?_ | refine w_lrg ?_ | refine w_to ?_ | refine w_ft ?_ | refine w_it ?_ | refine w_rng ?_ | refine w_enu ?_ | refine w_comp ?_
              | refine w_tp ?_ | refine w_tnil ?_ | refine w_tcons ?_
              | refine w_var (d := _) rfl rfl ?_ | refine w_varO (d := _) rfl rfl ?_ | refine w_lnv (d := _) rfl rfl ?_ | refine w_sbv (d0 := _) rfl ?_ | refine w_cio (d0 := _) rfl ?_ | refine w_app (l0 := _) rfl ?_ | refine w_st (d0 := _) rfl ?_ | refine w_retv (d := _) rfl ?_
              | refine w_nm (Nat.le_of_ble_eq_true rfl) ?_
              | refine ex_some (o_add _ _) ?_ | refine ex_some (o_sub _ _) ?_ | refine ex_some rfl ?_ | refine ex_int ?_ | refine ex_lst ?_ | refine ex_sbv rfl rfl rfl ?_ | refine ex_st rfl rfl rfl ?_
              | (refine ⟨(Nat.le_of_ble_eq_true rfl : _ ≤ lim), ?_⟩)))
            refine ex_dec (fun h1 => ?_) (fun h1 => ?_)
            · (repeat (first
                | refine w_bcons ?_ | refine w_asg ?_ | refine w_par ?_ | refine w_exp ?_ | refine w_ife ?_ | refine w_ret ?_ | refine w_bnil ?_ | refine w_brk ?_ | refine w_cnt ?_
                | refine w_con ?_ | refine w_bin ?_ | refine w_neg ?_ | refine w_not ?_ | refine w_and ?_ | refine w_or ?_ | refine w_ifx ?_ | refine w_cmp ?_ | refine w_chain ?_
                | refine w_anil ?_ | refine w_acons ?_ | refine w_tup ?_ | refine w_lst ?_ | refine w_sub ?_ | refine w_ono ?_ | refine w_oso ?_ | refine w_slice ?_ | refine w_blt ?_ | refine w_isi ?_
                | refine w_call ?_ | refine w_ckw ?_ | refine w_rvl ?_ | refine w_lrg ?_ | refine w_to ?_ | refine w_ft ?_ | refine w_it ?_ | refine w_rng ?_ | refine w_enu ?_ | refine w_comp ?_
                | refine w_tp ?_ | refine w_tnil ?_ | refine w_tcons ?_
                | refine w_var (d := _) rfl rfl ?_ | refine w_varO (d := _) rfl rfl ?_ | refine w_lnv (d := _) rfl rfl ?_ | refine w_sbv (d0 := _) rfl ?_ | refine w_cio (d0 := _) rfl ?_ | refine w_app (l0 := _) rfl ?_ | refine w_st (d0 := _) rfl ?_ | refine w_retv (d := _) rfl ?_
                | refine w_nm (Nat.le_of_ble_eq_true rfl) ?_
                | refine ex_some (o_add _ _) ?_ | refine ex_some (o_sub _ _) ?_ | refine ex_some rfl ?_ | refine ex_int ?_ | refine ex_lst ?_ | refine ex_sbv rfl rfl rfl ?_ | refine ex_st rfl rfl rfl ?_
                | (refine ⟨(Nat.le_of_ble_eq_true rfl : _ ≤ lim), ?_⟩)))
              exact ⟨_, rfl, p, 1, n, l4, rfl, rfl, hp, by decide, by omega, n1, n2, g4⟩
            · (repeat (first
                | refine w_bcons ?_ | refine w_asg ?_ | refine w_par ?_ | refine w_exp ?_ | refine w_ife ?_ | refine w_ret ?_ | refine w_bnil ?_ | refine w_brk ?_ | refine w_cnt ?_
                | refine w_con ?_ | refine w_bin ?_ | refine w_neg ?_ | refine w_not ?_ | refine w_and ?_ | refine w_or ?_ | refine w_ifx ?_ | refine w_cmp ?_ | refine w_chain ?_
                | refine w_anil ?_ | refine w_acons ?_ | refine w_tup ?_ | refine w_lst ?_ | refine w_sub ?_ | refine w_ono ?_ | refine w_oso ?_ | refine w_slice ?_ | refine w_blt ?_ | refine w_isi ?_
                | refine w_call ?_ | refine w_ckw ?_ | refine w_rvl ?_ | refine w_lrg ?_ | refine w_to ?_ | refine w_ft ?_ | refine w_it ?_ | refine w_rng ?_ | refine w_enu ?_ | refine w_comp ?_
                | refine w_tp ?_ | refine w_tnil ?_ | refine w_tcons ?_
                | refine w_var (d := _) rfl rfl ?_ | refine w_varO (d := _) rfl rfl ?_ | refine w_lnv (d := _) rfl rfl ?_ | refine w_sbv (d0 := _) rfl ?_ | refine w_cio (d0 := _) rfl ?_ | refine w_app (l0 := _) rfl ?_ | refine w_st (d0 := _) rfl ?_ | refine w_retv (d := _) rfl ?_
                | refine w_nm (Nat.le_of_ble_eq_true rfl) ?_
                | refine ex_some (o_add _ _) ?_ | refine ex_some (o_sub _ _) ?_ | refine ex_some rfl ?_ | refine ex_int ?_ | refine ex_lst ?_ | refine ex_sbv rfl rfl rfl ?_ | refine ex_st rfl rfl rfl ?_
                | (refine ⟨(Nat.le_of_ble_eq_true rfl : _ ≤ lim), ?_⟩)))
              exact ⟨_, rfl, p, c, n, l4, rfl, rfl, hp, c1, c2, n1, n2, g4⟩
theorem se_ok (k : Nat) : SeOk (callN fs (k + 4)) := fun {l} t hb => by
  rw [callN_eq (F := m__law_setting) rfl]
  obtain ⟨d, x', e, p, c, n, l', rfl, rfl, hp, c1, c2, n1, n2, g⟩ := setting _ (all_ok k) t hb
  refine ⟨p, c, n.toNat, l', ?_, hp, c1, c2, by omega, by omega, g⟩
  rw [Int.toNat_of_nonneg (by omega)]
  exact e
end R49

namespace R49
open PySem PySem.Spec Rr
def OtOk (C : Fn) : Prop := ∀ {l : List D} {n W g : Int}, Bg l → 1 ≤ n → n ≤ 16 → 1 ≤ W → W ≤ 192 → 1 ≤ g → g ≤ 192 → ∃ xs l', C 24 [.lst true l, .int n, .int W, .int g] = (some (.lst true (iA xs), [.lst true l'])) ∧ xs.length ≤ 100 ∧ Bg l'
theorem ot_ok (k : Nat) : OtOk (callN fs (k + 4)) := fun {l n W g} hb n1 n2 W1 W2 g1 g2 => by
  rw [callN_eq (F := m__law_own_turns) rfl]
  have A := all_ok k
  generalize callN fs (k + 3) = C at A
  have := w_runio (C := C) (F := m__law_own_turns) (ds := [.lst true l, .int n, .int W, .int g]) (Q := fun d x' => ∃ xs l', d = .lst true (iA xs) ∧ x' = .lst true l' ∧ xs.length ≤ 100 ∧ Bg l') rfl (by decide) rfl ?_
  · obtain ⟨d, x', e, xs, l', rfl, rfl, q1, q2⟩ := this
    exact ⟨xs, l', e, q1, q2⟩
  · show wB C _ [some (.lst true l), some (.int n), some (.int W), some (.int g), none] _
    refine w_then (fun ρ => ∃ xs, ρ = [some (.lst true l), some (.int n), some (.int W), some (.int g), some (.lst true (iA xs))] ∧ xs.length = 11) ?_ fun ρ ⟨xs, eρ, hx⟩ => ?_
    · (repeat (first
        | refine w_bcons ?_ | refine w_asg ?_ | refine w_par ?_ | refine w_exp ?_ | refine w_ife ?_ | refine w_ret ?_ | refine w_bnil ?_ | refine w_brk ?_ | refine w_cnt ?_
        | refine w_con ?_ | refine w_bin ?_ | refine w_neg ?_ | refine w_not ?_ | refine w_and ?_ | refine w_or ?_ | refine w_ifx ?_ | refine w_cmp ?_ | refine w_chain ?_
        | refine w_anil ?_ | refine w_acons ?_ | refine w_tup ?_ | refine w_lst ?_ | refine w_sub ?_ | refine w_ono ?_ | refine w_oso ?_ | refine w_slice ?_ | refine w_blt ?_ | refine w_isi ?_
        | refine w_call ?_ | refine w_ckw ?_ | refine w_rvl ?_ | refine w_lrg ?_ | refine w_to ?_ | refine w_ft ?_ | refine w_it ?_ | refine w_rng ?_ | refine w_enu ?_ | refine w_comp ?_
        | refine w_tp ?_ | refine w_tnil ?_ | refine w_tcons ?_
        | refine w_var (d := _) rfl rfl ?_ | refine w_varO (d := _) rfl rfl ?_ | refine w_lnv (d := _) rfl rfl ?_ | refine w_sbv (d0 := _) rfl ?_ | refine w_cio (d0 := _) rfl ?_ | refine w_app (l0 := _) rfl ?_ | refine w_st (d0 := _) rfl ?_ | refine w_retv (d := _) rfl ?_
        | refine w_nm (Nat.le_of_ble_eq_true rfl) ?_
        | refine ex_some (o_add _ _) ?_ | refine ex_some (o_sub _ _) ?_ | refine ex_some rfl ?_ | refine ex_int ?_ | refine ex_lst ?_ | refine ex_sbv rfl rfl rfl ?_ | refine ex_st rfl rfl rfl ?_
        | (refine ⟨(Nat.le_of_ble_eq_true rfl : _ ≤ lim), ?_⟩)))
      exact ⟨rfl, [0, 1, -1, n, -n, n - 1, 1 - n, W, -W, 10 ^ 30, -10 ^ 30], rfl, rfl⟩
    · subst eρ
      refine w_then (fun ρ => ∃ l xs, ρ = [some (.lst true l), some (.int n), some (.int W), some (.int g), some (.lst true (iA xs))] ∧ xs.length = 12 ∧ Bg l) ?_ fun ρ ⟨l1, xs, eρ, hx, gb⟩ => ?_
      · (repeat (first
          | refine w_bcons ?_ | refine w_asg ?_ | refine w_par ?_ | refine w_exp ?_ | refine w_ife ?_ | refine w_ret ?_ | refine w_bnil ?_ | refine w_brk ?_ | refine w_cnt ?_
          | refine w_con ?_ | refine w_bin ?_ | refine w_neg ?_ | refine w_not ?_ | refine w_and ?_ | refine w_or ?_ | refine w_ifx ?_ | refine w_cmp ?_ | refine w_chain ?_
          | refine w_anil ?_ | refine w_acons ?_ | refine w_tup ?_ | refine w_lst ?_ | refine w_sub ?_ | refine w_ono ?_ | refine w_oso ?_ | refine w_slice ?_ | refine w_blt ?_ | refine w_isi ?_
          | refine w_call ?_ | refine w_ckw ?_ | refine w_rvl ?_ | refine w_lrg ?_ | refine w_to ?_ | refine w_ft ?_ | refine w_it ?_ | refine w_rng ?_ | refine w_enu ?_ | refine w_comp ?_
          | refine w_tp ?_ | refine w_tnil ?_ | refine w_tcons ?_
          | refine w_var (d := _) rfl rfl ?_ | refine w_varO (d := _) rfl rfl ?_ | refine w_lnv (d := _) rfl rfl ?_ | refine w_sbv (d0 := _) rfl ?_ | refine w_cio (d0 := _) rfl ?_ | refine w_app (l0 := _) rfl ?_ | refine w_st (d0 := _) rfl ?_ | refine w_retv (d := _) rfl ?_
          | refine w_nm (Nat.le_of_ble_eq_true rfl) ?_
          | refine ex_some (o_add _ _) ?_ | refine ex_some (o_sub _ _) ?_ | refine ex_some rfl ?_ | refine ex_int ?_ | refine ex_lst ?_ | refine ex_sbv rfl rfl rfl ?_ | refine ex_st rfl rfl rfl ?_
          | (refine ⟨(Nat.le_of_ble_eq_true rfl : _ ≤ lim), ?_⟩)))
        refine ex_some (o_mulS (by omega) (by omega) (by omega) (by omega)) ?_
        (repeat (first
          | refine w_bcons ?_ | refine w_asg ?_ | refine w_par ?_ | refine w_exp ?_ | refine w_ife ?_ | refine w_ret ?_ | refine w_bnil ?_ | refine w_brk ?_ | refine w_cnt ?_
          | refine w_con ?_ | refine w_bin ?_ | refine w_neg ?_ | refine w_not ?_ | refine w_and ?_ | refine w_or ?_ | refine w_ifx ?_ | refine w_cmp ?_ | refine w_chain ?_
          | refine w_anil ?_ | refine w_acons ?_ | refine w_tup ?_ | refine w_lst ?_ | refine w_sub ?_ | refine w_ono ?_ | refine w_oso ?_ | refine w_slice ?_ | refine w_blt ?_ | refine w_isi ?_
          | refine w_call ?_ | refine w_ckw ?_ | refine w_rvl ?_ | refine w_lrg ?_ | refine w_to ?_ | refine w_ft ?_ | refine w_it ?_ | refine w_rng ?_ | refine w_enu ?_ | refine w_comp ?_
          | refine w_tp ?_ | refine w_tnil ?_ | refine w_tcons ?_
          | refine w_var (d := _) rfl rfl ?_ | refine w_varO (d := _) rfl rfl ?_ | refine w_lnv (d := _) rfl rfl ?_ | refine w_sbv (d0 := _) rfl ?_ | refine w_cio (d0 := _) rfl ?_ | refine w_app (l0 := _) rfl ?_ | refine w_st (d0 := _) rfl ?_ | refine w_retv (d := _) rfl ?_
          | refine w_nm (Nat.le_of_ble_eq_true rfl) ?_
          | refine ex_some (o_add _ _) ?_ | refine ex_some (o_sub _ _) ?_ | refine ex_some rfl ?_ | refine ex_int ?_ | refine ex_lst ?_ | refine ex_sbv rfl rfl rfl ?_ | refine ex_st rfl rfl rfl ?_
          | (refine ⟨(Nat.le_of_ble_eq_true rfl : _ ≤ lim), ?_⟩)))
        obtain ⟨r, l2, e2, q1, q2, gb⟩ := A.draw l (4 * W + 1) hb (by omega) (by omega)
        refine ⟨_, _, _, rfl, e2, ?_⟩
        (repeat (first
          | refine w_bcons ?_ | refine w_asg ?_ | refine w_par ?_ | refine w_exp ?_ | refine w_ife ?_ | refine w_ret ?_ | refine w_bnil ?_ | refine w_brk ?_ | refine w_cnt ?_
          | refine w_con ?_ | refine w_bin ?_ | refine w_neg ?_ | refine w_not ?_ | refine w_and ?_ | refine w_or ?_ | refine w_ifx ?_ | refine w_cmp ?_ | refine w_chain ?_
          | refine w_anil ?_ | refine w_acons ?_ | refine w_tup ?_ | refine w_lst ?_ | refine w_sub ?_ | refine w_ono ?_ | refine w_oso ?_ | refine w_slice ?_ | refine w_blt ?_ | refine w_isi ?_
          | refine w_call ?_ | refine w_ckw ?_ | refine w_rvl ?_ | refine w_lrg ?_ | refine w_to ?_ | refine w_ft ?_ | refine w_it ?_ | refine w_rng ?_ | refine w_enu ?_ | refine w_comp ?_
          | refine w_tp ?_ | refine w_tnil ?_ | refine w_tcons ?_
          | refine w_var (d := _) rfl rfl ?_ | refine w_varO (d := _) rfl rfl ?_ | refine w_lnv (d := _) rfl rfl ?_ | refine w_sbv (d0 := _) rfl ?_ | refine w_cio (d0 := _) rfl ?_ | refine w_app (l0 := _) rfl ?_ | refine w_st (d0 := _) rfl ?_ | refine w_retv (d := _) rfl ?_
          | refine w_nm (Nat.le_of_ble_eq_true rfl) ?_
          | refine ex_some (o_add _ _) ?_ | refine ex_some (o_sub _ _) ?_ | refine ex_some rfl ?_ | refine ex_int ?_ | refine ex_lst ?_ | refine ex_sbv rfl rfl rfl ?_ | refine ex_st rfl rfl rfl ?_
          | (refine ⟨(Nat.le_of_ble_eq_true rfl : _ ≤ lim), ?_⟩)))
        refine ex_some (o_mulS (by omega) (by omega) (by omega) (by omega)) ?_
        (repeat (first
          | refine w_bcons ?_ | refine w_asg ?_ | refine w_par ?_ | refine w_exp ?_ | refine w_ife ?_ | refine w_ret ?_ | refine w_bnil ?_ | refine w_brk ?_ | refine w_cnt ?_
          | refine w_con ?_ | refine w_bin ?_ | refine w_neg ?_ | refine w_not ?_ | refine w_and ?_ | refine w_or ?_ | refine w_ifx ?_ | refine w_cmp ?_ | refine w_chain ?_
          | refine w_anil ?_ | refine w_acons ?_ | refine w_tup ?_ | refine w_lst ?_ | refine w_sub ?_ | refine w_ono ?_ | refine w_oso ?_ | refine w_slice ?_ | refine w_blt ?_ | refine w_isi ?_
          | refine w_call ?_ | refine w_ckw ?_ | refine w_rvl ?_ | refine w_lrg ?_ | refine w_to ?_ | refine w_ft ?_ | refine w_it ?_ | refine w_rng ?_ | refine w_enu ?_ | refine w_comp ?_
          | refine w_tp ?_ | refine w_tnil ?_ | refine w_tcons ?_
          | refine w_var (d := _) rfl rfl ?_ | refine w_varO (d := _) rfl rfl ?_ | refine w_lnv (d := _) rfl rfl ?_ | refine w_sbv (d0 := _) rfl ?_ | refine w_cio (d0 := _) rfl ?_ | refine w_app (l0 := _) rfl ?_ | refine w_st (d0 := _) rfl ?_ | refine w_retv (d := _) rfl ?_
          | refine w_nm (Nat.le_of_ble_eq_true rfl) ?_
          | refine ex_some (o_add _ _) ?_ | refine ex_some (o_sub _ _) ?_ | refine ex_some rfl ?_ | refine ex_int ?_ | refine ex_lst ?_ | refine ex_sbv rfl rfl rfl ?_ | refine ex_st rfl rfl rfl ?_
          | (refine ⟨(Nat.le_of_ble_eq_true rfl : _ ≤ lim), ?_⟩)))
        refine ⟨by rw [List.length_map]; show _ < 1000000; omega, rfl, l2, xs ++ [r - 2 * W], ?_, by rw [List.length_append, hx]; rfl, gb⟩
        rw [iA, iA, List.map_append]
        rfl
      · subst eρ
        refine w_then (fun ρ => ∃ l xs, ρ = [some (.lst true l), some (.int n), some (.int W), some (.int g), some (.lst true (iA xs))] ∧ xs.length = 13 ∧ Bg l) ?_ fun ρ ⟨l2, xs, eρ, hx, gb⟩ => ?_
        · (repeat (first
            | refine w_bcons ?_ | refine w_asg ?_ | refine w_par ?_ | refine w_exp ?_ | refine w_ife ?_ | refine w_ret ?_ | refine w_bnil ?_ | refine w_brk ?_ | refine w_cnt ?_
            | refine w_con ?_ | refine w_bin ?_ | refine w_neg ?_ | refine w_not ?_ | refine w_and ?_ | refine w_or ?_ | refine w_ifx ?_ | refine w_cmp ?_ | refine w_chain ?_
            | refine w_anil ?_ | refine w_acons ?_ | refine w_tup ?_ | refine w_lst ?_ | refine w_sub ?_ | refine w_ono ?_ | refine w_oso ?_ | refine w_slice ?_ | refine w_blt ?_ | refine w_isi ?_
            | refine w_call ?_ | refine w_ckw ?_ | refine w_rvl ?_ | refine w_lrg ?_ | refine w_to ?_ | refine w_ft ?_ | refine w_it ?_ | refine w_rng ?_ | refine w_enu ?_ | refine w_comp ?_
            | refine w_tp ?_ | refine w_tnil ?_ | refine w_tcons ?_
            | refine w_var (d := _) rfl rfl ?_ | refine w_varO (d := _) rfl rfl ?_ | refine w_lnv (d := _) rfl rfl ?_ | refine w_sbv (d0 := _) rfl ?_ | refine w_cio (d0 := _) rfl ?_ | refine w_app (l0 := _) rfl ?_ | refine w_st (d0 := _) rfl ?_ | refine w_retv (d := _) rfl ?_
            | refine w_nm (Nat.le_of_ble_eq_true rfl) ?_
            | refine ex_some (o_add _ _) ?_ | refine ex_some (o_sub _ _) ?_ | refine ex_some rfl ?_ | refine ex_int ?_ | refine ex_lst ?_ | refine ex_sbv rfl rfl rfl ?_ | refine ex_st rfl rfl rfl ?_
            | (refine ⟨(Nat.le_of_ble_eq_true rfl : _ ≤ lim), ?_⟩)))
          obtain ⟨r, l2, e2, q1, q2, gb⟩ := A.draw l1 41 gb (by omega) (by omega)
          refine ⟨_, _, _, rfl, e2, ?_⟩
          (repeat (first
            | refine w_bcons ?_ | refine w_asg ?_ | refine w_par ?_ | refine w_exp ?_ | refine w_ife ?_ | refine w_ret ?_ | refine w_bnil ?_ | refine w_brk ?_ | refine w_cnt ?_
            | refine w_con ?_ | refine w_bin ?_ | refine w_neg ?_ | refine w_not ?_ | refine w_and ?_ | refine w_or ?_ | refine w_ifx ?_ | refine w_cmp ?_ | refine w_chain ?_
            | refine w_anil ?_ | refine w_acons ?_ | refine w_tup ?_ | refine w_lst ?_ | refine w_sub ?_ | refine w_ono ?_ | refine w_oso ?_ | refine w_slice ?_ | refine w_blt ?_ | refine w_isi ?_
            | refine w_call ?_ | refine w_ckw ?_ | refine w_rvl ?_ | refine w_lrg ?_ | refine w_to ?_ | refine w_ft ?_ | refine w_it ?_ | refine w_rng ?_ | refine w_enu ?_ | refine w_comp ?_
            | refine w_tp ?_ | refine w_tnil ?_ | refine w_tcons ?_
            | refine w_var (d := _) rfl rfl ?_ | refine w_varO (d := _) rfl rfl ?_ | refine w_lnv (d := _) rfl rfl ?_ | refine w_sbv (d0 := _) rfl ?_ | refine w_cio (d0 := _) rfl ?_ | refine w_app (l0 := _) rfl ?_ | refine w_st (d0 := _) rfl ?_ | refine w_retv (d := _) rfl ?_
            | refine w_nm (Nat.le_of_ble_eq_true rfl) ?_
            | refine ex_some (o_add _ _) ?_ | refine ex_some (o_sub _ _) ?_ | refine ex_some rfl ?_ | refine ex_int ?_ | refine ex_lst ?_ | refine ex_sbv rfl rfl rfl ?_ | refine ex_st rfl rfl rfl ?_
            | (refine ⟨(Nat.le_of_ble_eq_true rfl : _ ≤ lim), ?_⟩)))
          refine ex_some (o_mulS (by omega) (by omega) (by omega) (by omega)) ?_
          (repeat (first
            | refine w_bcons ?_ | refine w_asg ?_ | refine w_par ?_ | refine w_exp ?_ | refine w_ife ?_ | refine w_ret ?_ | refine w_bnil ?_ | refine w_brk ?_ | refine w_cnt ?_
            | refine w_con ?_ | refine w_bin ?_ | refine w_neg ?_ | refine w_not ?_ | refine w_and ?_ | refine w_or ?_ | refine w_ifx ?_ | refine w_cmp ?_ | refine w_chain ?_
            | refine w_anil ?_ | refine w_acons ?_ | refine w_tup ?_ | refine w_lst ?_ | refine w_sub ?_ | refine w_ono ?_ | refine w_oso ?_ | refine w_slice ?_ | refine w_blt ?_ | refine w_isi ?_
            | refine w_call ?_ | refine w_ckw ?_ | refine w_rvl ?_ | refine w_lrg ?_ | refine w_to ?_ | refine w_ft ?_ | refine w_it ?_ | refine w_rng ?_ | refine w_enu ?_ | refine w_comp ?_
            | refine w_tp ?_ | refine w_tnil ?_ | refine w_tcons ?_
            | refine w_var (d := _) rfl rfl ?_ | refine w_varO (d := _) rfl rfl ?_ | refine w_lnv (d := _) rfl rfl ?_ | refine w_sbv (d0 := _) rfl ?_ | refine w_cio (d0 := _) rfl ?_ | refine w_app (l0 := _) rfl ?_ | refine w_st (d0 := _) rfl ?_ | refine w_retv (d := _) rfl ?_
            | refine w_nm (Nat.le_of_ble_eq_true rfl) ?_
            | refine ex_some (o_add _ _) ?_ | refine ex_some (o_sub _ _) ?_ | refine ex_some rfl ?_ | refine ex_int ?_ | refine ex_lst ?_ | refine ex_sbv rfl rfl rfl ?_ | refine ex_st rfl rfl rfl ?_
            | (refine ⟨(Nat.le_of_ble_eq_true rfl : _ ≤ lim), ?_⟩)))
          refine ⟨by rw [List.length_map]; show _ < 1000000; omega, rfl, l2, xs ++ [g * (r - 20)], ?_, by rw [List.length_append, hx]; rfl, gb⟩
          rw [iA, iA, List.map_append]
          rfl
        · subst eρ
          refine w_then (fun ρ => ∃ l xs, ρ = [some (.lst true l), some (.int n), some (.int W), some (.int g), some (.lst true (iA xs))] ∧ xs.length = 14 ∧ Bg l) ?_ fun ρ ⟨l3, xs, eρ, hx, gb⟩ => ?_
          · (repeat (first
              | refine w_bcons ?_ | refine w_asg ?_ | refine w_par ?_ | refine w_exp ?_ | refine w_ife ?_ | refine w_ret ?_ | refine w_bnil ?_ | refine w_brk ?_ | refine w_cnt ?_
              | refine w_con ?_ | refine w_bin ?_ | refine w_neg ?_ | refine w_not ?_ | refine w_and ?_ | refine w_or ?_ | refine w_ifx ?_ | refine w_cmp ?_ | refine w_chain ?_
              | refine w_anil ?_ | refine w_acons ?_ | refine w_tup ?_ | refine w_lst ?_ | refine w_sub ?_ | refine w_ono ?_ | refine w_oso ?_ | refine w_slice ?_ | refine w_blt ?_ | refine w_isi ?_
              | refine w_call ?_ | refine w_ckw ?_ | refine w_rvl ?_ | refine w_lrg ?_ | refine w_to ?_ | refine w_ft ?_ | refine w_it ?_ | refine w_rng ?_ | refine w_enu ?_ | refine w_comp ?_
              | refine w_tp ?_ | refine w_tnil ?_ | refine w_tcons ?_
              | refine w_var (d := _) rfl rfl ?_ | refine w_varO (d := _) rfl rfl ?_ | refine w_lnv (d := _) rfl rfl ?_ | refine w_sbv (d0 := _) rfl ?_ | refine w_cio (d0 := _) rfl ?_ | refine w_app (l0 := _) rfl ?_ | refine w_st (d0 := _) rfl ?_ | refine w_retv (d := _) rfl ?_
              | refine w_nm (Nat.le_of_ble_eq_true rfl) ?_
              | refine ex_some (o_add _ _) ?_ | refine ex_some (o_sub _ _) ?_ | refine ex_some rfl ?_ | refine ex_int ?_ | refine ex_lst ?_ | refine ex_sbv rfl rfl rfl ?_ | refine ex_st rfl rfl rfl ?_
              | (refine ⟨(Nat.le_of_ble_eq_true rfl : _ ≤ lim), ?_⟩)))
            obtain ⟨r, l3, e2, q1, q2, gb⟩ := A.draw l2 41 gb (by omega) (by omega)
            refine ⟨_, _, _, rfl, e2, ?_⟩
            (repeat (first
              | refine w_bcons ?_ | refine w_asg ?_ | refine w_par ?_ | refine w_exp ?_ | refine w_ife ?_ | refine w_ret ?_ | refine w_bnil ?_ | refine w_brk ?_ | refine w_cnt ?_
              | refine w_con ?_ | refine w_bin ?_ | refine w_neg ?_ | refine w_not ?_ | refine w_and ?_ | refine w_or ?_ | refine w_ifx ?_ | refine w_cmp ?_ | refine w_chain ?_
              | refine w_anil ?_ | refine w_acons ?_ | refine w_tup ?_ | refine w_lst ?_ | refine w_sub ?_ | refine w_ono ?_ | refine w_oso ?_ | refine w_slice ?_ | refine w_blt ?_ | refine w_isi ?_
              | refine w_call ?_ | refine w_ckw ?_ | refine w_rvl ?_ | refine w_lrg ?_ | refine w_to ?_ | refine w_ft ?_ | refine w_it ?_ | refine w_rng ?_ | refine w_enu ?_ | refine w_comp ?_
              | refine w_tp ?_ | refine w_tnil ?_ | refine w_tcons ?_
              | refine w_var (d := _) rfl rfl ?_ | refine w_varO (d := _) rfl rfl ?_ | refine w_lnv (d := _) rfl rfl ?_ | refine w_sbv (d0 := _) rfl ?_ | refine w_cio (d0 := _) rfl ?_ | refine w_app (l0 := _) rfl ?_ | refine w_st (d0 := _) rfl ?_ | refine w_retv (d := _) rfl ?_
              | refine w_nm (Nat.le_of_ble_eq_true rfl) ?_
              | refine ex_some (o_add _ _) ?_ | refine ex_some (o_sub _ _) ?_ | refine ex_some rfl ?_ | refine ex_int ?_ | refine ex_lst ?_ | refine ex_sbv rfl rfl rfl ?_ | refine ex_st rfl rfl rfl ?_
              | (refine ⟨(Nat.le_of_ble_eq_true rfl : _ ≤ lim), ?_⟩)))
            refine ex_some (o_mulS (by omega) (by omega) (by omega) (by omega)) ?_
            (repeat (first
              | refine w_bcons ?_ | refine w_asg ?_ | refine w_par ?_ | refine w_exp ?_ | refine w_ife ?_ | refine w_ret ?_ | refine w_bnil ?_ | refine w_brk ?_ | refine w_cnt ?_
              | refine w_con ?_ | refine w_bin ?_ | refine w_neg ?_ | refine w_not ?_ | refine w_and ?_ | refine w_or ?_ | refine w_ifx ?_ | refine w_cmp ?_ | refine w_chain ?_
              | refine w_anil ?_ | refine w_acons ?_ | refine w_tup ?_ | refine w_lst ?_ | refine w_sub ?_ | refine w_ono ?_ | refine w_oso ?_ | refine w_slice ?_ | refine w_blt ?_ | refine w_isi ?_
              | refine w_call ?_ | refine w_ckw ?_ | refine w_rvl ?_ | refine w_lrg ?_ | refine w_to ?_ | refine w_ft ?_ | refine w_it ?_ | refine w_rng ?_ | refine w_enu ?_ | refine w_comp ?_
              | refine w_tp ?_ | refine w_tnil ?_ | refine w_tcons ?_
              | refine w_var (d := _) rfl rfl ?_ | refine w_varO (d := _) rfl rfl ?_ | refine w_lnv (d := _) rfl rfl ?_ | refine w_sbv (d0 := _) rfl ?_ | refine w_cio (d0 := _) rfl ?_ | refine w_app (l0 := _) rfl ?_ | refine w_st (d0 := _) rfl ?_ | refine w_retv (d := _) rfl ?_
              | refine w_nm (Nat.le_of_ble_eq_true rfl) ?_
              | refine ex_some (o_add _ _) ?_ | refine ex_some (o_sub _ _) ?_ | refine ex_some rfl ?_ | refine ex_int ?_ | refine ex_lst ?_ | refine ex_sbv rfl rfl rfl ?_ | refine ex_st rfl rfl rfl ?_
              | (refine ⟨(Nat.le_of_ble_eq_true rfl : _ ≤ lim), ?_⟩)))
            obtain ⟨r2, l4, e4, q3, q4, gb⟩ := A.draw l3 g gb (by omega) (by omega)
            refine ⟨_, _, _, rfl, e4, ?_⟩
            (repeat (first
              | refine w_bcons ?_ | refine w_asg ?_ | refine w_par ?_ | refine w_exp ?_ | refine w_ife ?_ | refine w_ret ?_ | refine w_bnil ?_ | refine w_brk ?_ | refine w_cnt ?_
              | refine w_con ?_ | refine w_bin ?_ | refine w_neg ?_ | refine w_not ?_ | refine w_and ?_ | refine w_or ?_ | refine w_ifx ?_ | refine w_cmp ?_ | refine w_chain ?_
              | refine w_anil ?_ | refine w_acons ?_ | refine w_tup ?_ | refine w_lst ?_ | refine w_sub ?_ | refine w_ono ?_ | refine w_oso ?_ | refine w_slice ?_ | refine w_blt ?_ | refine w_isi ?_
              | refine w_call ?_ | refine w_ckw ?_ | refine w_rvl ?_ | refine w_lrg ?_ | refine w_to ?_ | refine w_ft ?_ | refine w_it ?_ | refine w_rng ?_ | refine w_enu ?_ | refine w_comp ?_
              | refine w_tp ?_ | refine w_tnil ?_ | refine w_tcons ?_
              | refine w_var (d := _) rfl rfl ?_ | refine w_varO (d := _) rfl rfl ?_ | refine w_lnv (d := _) rfl rfl ?_ | refine w_sbv (d0 := _) rfl ?_ | refine w_cio (d0 := _) rfl ?_ | refine w_app (l0 := _) rfl ?_ | refine w_st (d0 := _) rfl ?_ | refine w_retv (d := _) rfl ?_
              | refine w_nm (Nat.le_of_ble_eq_true rfl) ?_
              | refine ex_some (o_add _ _) ?_ | refine ex_some (o_sub _ _) ?_ | refine ex_some rfl ?_ | refine ex_int ?_ | refine ex_lst ?_ | refine ex_sbv rfl rfl rfl ?_ | refine ex_st rfl rfl rfl ?_
              | (refine ⟨(Nat.le_of_ble_eq_true rfl : _ ≤ lim), ?_⟩)))
            refine ⟨by rw [List.length_map]; show _ < 1000000; omega, rfl, l4, xs ++ [g * (r - 20) + 1 + r2], ?_, by rw [List.length_append, hx]; rfl, gb⟩
            rw [iA, iA, List.map_append]
            rfl
          · subst eρ
            (repeat (first
              | refine w_bcons ?_ | refine w_asg ?_ | refine w_par ?_ | refine w_exp ?_ | refine w_ife ?_ | refine w_ret ?_ | refine w_bnil ?_ | refine w_brk ?_ | refine w_cnt ?_
              | refine w_con ?_ | refine w_bin ?_ | refine w_neg ?_ | refine w_not ?_ | refine w_and ?_ | refine w_or ?_ | refine w_ifx ?_ | refine w_cmp ?_ | refine w_chain ?_
              | refine w_anil ?_ | refine w_acons ?_ | refine w_tup ?_ | refine w_lst ?_ | refine w_sub ?_ | refine w_ono ?_ | refine w_oso ?_ | refine w_slice ?_ | refine w_blt ?_ | refine w_isi ?_
              | refine w_call ?_ | refine w_ckw ?_ | refine w_rvl ?_ | refine w_lrg ?_ | refine w_to ?_ | refine w_ft ?_ | refine w_it ?_ | refine w_rng ?_ | refine w_enu ?_ | refine w_comp ?_
              | refine w_tp ?_ | refine w_tnil ?_ | refine w_tcons ?_
              | refine w_var (d := _) rfl rfl ?_ | refine w_varO (d := _) rfl rfl ?_ | refine w_lnv (d := _) rfl rfl ?_ | refine w_sbv (d0 := _) rfl ?_ | refine w_cio (d0 := _) rfl ?_ | refine w_app (l0 := _) rfl ?_ | refine w_st (d0 := _) rfl ?_ | refine w_retv (d := _) rfl ?_
              | refine w_nm (Nat.le_of_ble_eq_true rfl) ?_
              | refine ex_some (o_add _ _) ?_ | refine ex_some (o_sub _ _) ?_ | refine ex_some rfl ?_ | refine ex_int ?_ | refine ex_lst ?_ | refine ex_sbv rfl rfl rfl ?_ | refine ex_st rfl rfl rfl ?_
              | (refine ⟨(Nat.le_of_ble_eq_true rfl : _ ≤ lim), ?_⟩)))
            obtain ⟨i, l4, e4, _, _, gb⟩ := A.int l3 gb
            refine ⟨_, _, _, rfl, e4, ?_⟩
            (repeat (first
              | refine w_bcons ?_ | refine w_asg ?_ | refine w_par ?_ | refine w_exp ?_ | refine w_ife ?_ | refine w_ret ?_ | refine w_bnil ?_ | refine w_brk ?_ | refine w_cnt ?_
              | refine w_con ?_ | refine w_bin ?_ | refine w_neg ?_ | refine w_not ?_ | refine w_and ?_ | refine w_or ?_ | refine w_ifx ?_ | refine w_cmp ?_ | refine w_chain ?_
              | refine w_anil ?_ | refine w_acons ?_ | refine w_tup ?_ | refine w_lst ?_ | refine w_sub ?_ | refine w_ono ?_ | refine w_oso ?_ | refine w_slice ?_ | refine w_blt ?_ | refine w_isi ?_
              | refine w_call ?_ | refine w_ckw ?_ | refine w_rvl ?_ | refine w_lrg ?_ | refine w_to ?_ | refine w_ft ?_ | refine w_it ?_ | refine w_rng ?_ | refine w_enu ?_ | refine w_comp ?_
              | refine w_tp ?_ | refine w_tnil ?_ | refine w_tcons ?_
              | refine w_var (d := _) rfl rfl ?_ | refine w_varO (d := _) rfl rfl ?_ | refine w_lnv (d := _) rfl rfl ?_ | refine w_sbv (d0 := _) rfl ?_ | refine w_cio (d0 := _) rfl ?_ | refine w_app (l0 := _) rfl ?_ | refine w_st (d0 := _) rfl ?_ | refine w_retv (d := _) rfl ?_
              | refine w_nm (Nat.le_of_ble_eq_true rfl) ?_
              | refine ex_some (o_add _ _) ?_ | refine ex_some (o_sub _ _) ?_ | refine ex_some rfl ?_ | refine ex_int ?_ | refine ex_lst ?_ | refine ex_sbv rfl rfl rfl ?_ | refine ex_st rfl rfl rfl ?_
              | (refine ⟨(Nat.le_of_ble_eq_true rfl : _ ≤ lim), ?_⟩)))
            obtain ⟨j, l5, e5, _, _, gb⟩ := A.int l4 gb
            refine ⟨_, _, _, rfl, e5, ?_⟩
            (repeat (first
              | refine w_bcons ?_ | refine w_asg ?_ | refine w_par ?_ | refine w_exp ?_ | refine w_ife ?_ | refine w_ret ?_ | refine w_bnil ?_ | refine w_brk ?_ | refine w_cnt ?_
              | refine w_con ?_ | refine w_bin ?_ | refine w_neg ?_ | refine w_not ?_ | refine w_and ?_ | refine w_or ?_ | refine w_ifx ?_ | refine w_cmp ?_ | refine w_chain ?_
              | refine w_anil ?_ | refine w_acons ?_ | refine w_tup ?_ | refine w_lst ?_ | refine w_sub ?_ | refine w_ono ?_ | refine w_oso ?_ | refine w_slice ?_ | refine w_blt ?_ | refine w_isi ?_
              | refine w_call ?_ | refine w_ckw ?_ | refine w_rvl ?_ | refine w_lrg ?_ | refine w_to ?_ | refine w_ft ?_ | refine w_it ?_ | refine w_rng ?_ | refine w_enu ?_ | refine w_comp ?_
              | refine w_tp ?_ | refine w_tnil ?_ | refine w_tcons ?_
              | refine w_var (d := _) rfl rfl ?_ | refine w_varO (d := _) rfl rfl ?_ | refine w_lnv (d := _) rfl rfl ?_ | refine w_sbv (d0 := _) rfl ?_ | refine w_cio (d0 := _) rfl ?_ | refine w_app (l0 := _) rfl ?_ | refine w_st (d0 := _) rfl ?_ | refine w_retv (d := _) rfl ?_
              | refine w_nm (Nat.le_of_ble_eq_true rfl) ?_
              | refine ex_some (o_add _ _) ?_ | refine ex_some (o_sub _ _) ?_ | refine ex_some rfl ?_ | refine ex_int ?_ | refine ex_lst ?_ | refine ex_sbv rfl rfl rfl ?_ | refine ex_st rfl rfl rfl ?_
              | (refine ⟨(Nat.le_of_ble_eq_true rfl : _ ≤ lim), ?_⟩)))
            refine ex_some (z := .lst true (iA (xs ++ [i, j]))) ?_ ?_
            · show addD (.lst false (D.fzA (iA xs))) (.lst false (iA [i, j])) = _
              rw [fzA_i]
              show (if (iA xs).length + (iA [i, j]).length ≤ lim then some (D.lst true (iA xs ++ iA [i, j])) else none) = _
              rw [if_pos (by rw [List.length_map]; show _ + 2 ≤ 1000000; omega), iA, iA, iA, List.map_append]
            · exact ⟨_, rfl, xs ++ [i, j], l5, rfl, rfl, by rw [List.length_append, hx]; show 14 + 2 ≤ 100; omega, gb⟩
theorem enum_get {xs : List Int} {k : Nat} {d : D} (h : (enumD (iA xs))[k]? = some d) : ∃ b, d = .tup [.int (k : Int), .int b] := by
  unfold enumD at h
  rw [List.getElem?_zipWith] at h
  cases h1 : (List.range (iA xs).length)[k]? with
  | none => rw [h1] at h; cases h
  | some j =>
    have hk : j = k := by
      have hl := (List.getElem?_eq_some_iff.mp h1).1
      rw [List.length_range] at hl
      rw [List.getElem?_range hl] at h1
      cases h1; rfl
    subst hk
    cases h2 : (iA xs)[j]? with
    | none => rw [h1, h2] at h; cases h
    | some x =>
      obtain ⟨i, _, rfl⟩ := iA_get h2
      rw [h1, h2] at h
      cases h
      exact ⟨i, rfl⟩
theorem All.row {C : Fn} (A : All C) {p c : Int} {n : Nat} {row : List Int} (h : PC p c) (hr : Row p n row) (hn2 : row.length ≤ 16) : C 13 [iT row, iT row] = some (.bl true, []) := A.isr row (by omega) (hr.sm h)
def TuOk (C : Fn) : Prop := ∀ {l : List D} {p c : Int} {n g : Nat} {row : List Int}, Bg l → PC p c → Row p n row → 0 < row.length → row.length ≤ 16 → Per p c row g → ∃ l', C 25 [.lst true l, .int p, .int c, iT row, .int g] = some (.bl true, [.lst true l']) ∧ Bg l'
theorem tu_ok (k : Nat) : TuOk (callN fs (k + 5)) := fun {l p c n g row} hb h hr hn hn2 pr => by
  rw [callN_eq (F := m__law_are_turns_right) rfl]
  have A := all_ok (k + 1)
  have hO : OtOk (callN fs (k + 4)) := ot_ok k
  have o0 := h.o0
  have o12 := h.o12
  have g0 := pr.pos
  obtain ⟨gl, gd⟩ := pr.le h hn
  have hw : 0 < row.length * ord p c := Nat.mul_pos hn h.o0
  have hw2 : row.length * ord p c ≤ 16 * 12 := Nat.mul_le_mul hn2 o12
  generalize callN fs (k + 4) = C at A hO
  have B := A.bt h hr hn hn2
  have L := A.lt h hr hn hn2
  have BT : ∀ a, BtOk C p c (T p c row a) := fun a => A.bt h (T_row h hr a) (by rw [T_len]; exact hn) (by rw [T_len]; exact hn2)
  have R : ∀ a, C 13 [iT (T p c row a), iT (T p c row a)] = some (.bl true, []) := fun a => A.row h (T_row h hr a) (by rw [T_len]; exact hn2)
  have R0 := A.row h hr hn2
  have hrep := repr_tup (xs := row) (by omega) (hr.sm h)
  have := w_runio (C := C) (F := m__law_are_turns_right) (ds := [.lst true l, .int p, .int c, iT row, .int g]) (Q := fun d x' => d = .bl true ∧ ∃ l', x' = .lst true l' ∧ Bg l') rfl (by decide) rfl ?_
  · obtain ⟨d, x', e, rfl, l', rfl, q⟩ := this
    exact ⟨l', e, q⟩
  · show wB C _ [some (.lst true l), some (.int p), some (.int c), some (iT row), some (.int g), none, none, none, none, none, none, none, none, none, none] _
    generalize hs : (D.py (iT row)).shown = s at hrep
    (repeat (first
      | refine w_bcons ?_ | refine w_asg ?_ | refine w_par ?_ | refine w_exp ?_ | refine w_ife ?_ | refine w_ret ?_ | refine w_bnil ?_ | refine w_brk ?_ | refine w_cnt ?_
      | refine w_con ?_ | refine w_bin ?_ | refine w_neg ?_ | refine w_not ?_ | refine w_and ?_ | refine w_or ?_ | refine w_ifx ?_ | refine w_cmp ?_ | refine w_chain ?_
      | refine w_anil ?_ | refine w_acons ?_ | refine w_tup ?_ | refine w_lst ?_ | refine w_sub ?_ | refine w_ono ?_ | refine w_oso ?_ | refine w_slice ?_ | refine w_blt ?_ | refine w_isi ?_
      | refine w_call ?_ | refine w_ckw ?_ | refine w_rvl ?_ | refine w_lrg ?_ | refine w_to ?_ | refine w_ft ?_ | refine w_it ?_ | refine w_rng ?_ | refine w_enu ?_ | refine w_comp ?_
      | refine w_tp ?_ | refine w_tnil ?_ | refine w_tcons ?_
      | refine w_var (d := _) rfl rfl ?_ | refine w_varO (d := _) rfl rfl ?_ | refine w_lnv (d := _) rfl rfl ?_ | refine w_sbv (d0 := _) rfl ?_ | refine w_cio (d0 := _) rfl ?_ | refine w_app (l0 := _) rfl ?_ | refine w_st (d0 := _) rfl ?_ | refine w_retv (d := _) rfl ?_
      | refine w_nm (Nat.le_of_ble_eq_true rfl) ?_
      | refine ex_some (o_add _ _) ?_ | refine ex_some (o_sub _ _) ?_ | refine ex_some rfl ?_ | refine ex_int ?_ | refine ex_lst ?_ | refine ex_sbv rfl rfl rfl ?_ | refine ex_st rfl rfl rfl ?_
      | (refine ⟨(Nat.le_of_ble_eq_true rfl : _ ≤ lim), ?_⟩)))
    refine ex_some hrep ?_
    (repeat (first
      | refine w_bcons ?_ | refine w_asg ?_ | refine w_par ?_ | refine w_exp ?_ | refine w_ife ?_ | refine w_ret ?_ | refine w_bnil ?_ | refine w_brk ?_ | refine w_cnt ?_
      | refine w_con ?_ | refine w_bin ?_ | refine w_neg ?_ | refine w_not ?_ | refine w_and ?_ | refine w_or ?_ | refine w_ifx ?_ | refine w_cmp ?_ | refine w_chain ?_
      | refine w_anil ?_ | refine w_acons ?_ | refine w_tup ?_ | refine w_lst ?_ | refine w_sub ?_ | refine w_ono ?_ | refine w_oso ?_ | refine w_slice ?_ | refine w_blt ?_ | refine w_isi ?_
      | refine w_call ?_ | refine w_ckw ?_ | refine w_rvl ?_ | refine w_lrg ?_ | refine w_to ?_ | refine w_ft ?_ | refine w_it ?_ | refine w_rng ?_ | refine w_enu ?_ | refine w_comp ?_
      | refine w_tp ?_ | refine w_tnil ?_ | refine w_tcons ?_
      | refine w_var (d := _) rfl rfl ?_ | refine w_varO (d := _) rfl rfl ?_ | refine w_lnv (d := _) rfl rfl ?_ | refine w_sbv (d0 := _) rfl ?_ | refine w_cio (d0 := _) rfl ?_ | refine w_app (l0 := _) rfl ?_ | refine w_st (d0 := _) rfl ?_ | refine w_retv (d := _) rfl ?_
      | refine w_nm (Nat.le_of_ble_eq_true rfl) ?_
      | refine ex_some (o_add _ _) ?_ | refine ex_some (o_sub _ _) ?_ | refine ex_some rfl ?_ | refine ex_int ?_ | refine ex_lst ?_ | refine ex_sbv rfl rfl rfl ?_ | refine ex_st rfl rfl rfl ?_
      | (refine ⟨(Nat.le_of_ble_eq_true rfl : _ ≤ lim), ?_⟩)))
    refine ⟨_, A.pow h, ?_⟩
    refine ex_some (z := .int (ord p c)) (by show some (D.int ((D.fzA (iA (pw p c))).length : Nat)) = _; rw [fzA_i, List.length_map, pw_len]) ?_
    simp only [List.length_map]
    refine ex_some (o_mulS (by omega) (by omega) (by omega) (by omega)) ?_
    rw [← Int.natCast_mul]
    generalize hW : row.length * ord p c = W at *
    (repeat (first
      | refine w_bcons ?_ | refine w_asg ?_ | refine w_par ?_ | refine w_exp ?_ | refine w_ife ?_ | refine w_ret ?_ | refine w_bnil ?_ | refine w_brk ?_ | refine w_cnt ?_
      | refine w_con ?_ | refine w_bin ?_ | refine w_neg ?_ | refine w_not ?_ | refine w_and ?_ | refine w_or ?_ | refine w_ifx ?_ | refine w_cmp ?_ | refine w_chain ?_
      | refine w_anil ?_ | refine w_acons ?_ | refine w_tup ?_ | refine w_lst ?_ | refine w_sub ?_ | refine w_ono ?_ | refine w_oso ?_ | refine w_slice ?_ | refine w_blt ?_ | refine w_isi ?_
      | refine w_call ?_ | refine w_ckw ?_ | refine w_rvl ?_ | refine w_lrg ?_ | refine w_to ?_ | refine w_ft ?_ | refine w_it ?_ | refine w_rng ?_ | refine w_enu ?_ | refine w_comp ?_
      | refine w_tp ?_ | refine w_tnil ?_ | refine w_tcons ?_
      | refine w_var (d := _) rfl rfl ?_ | refine w_varO (d := _) rfl rfl ?_ | refine w_lnv (d := _) rfl rfl ?_ | refine w_sbv (d0 := _) rfl ?_ | refine w_cio (d0 := _) rfl ?_ | refine w_app (l0 := _) rfl ?_ | refine w_st (d0 := _) rfl ?_ | refine w_retv (d := _) rfl ?_
      | refine w_nm (Nat.le_of_ble_eq_true rfl) ?_
      | refine ex_some (o_add _ _) ?_ | refine ex_some (o_sub _ _) ?_ | refine ex_some rfl ?_ | refine ex_int ?_ | refine ex_lst ?_ | refine ex_sbv rfl rfl rfl ?_ | refine ex_st rfl rfl rfl ?_
      | (refine ⟨(Nat.le_of_ble_eq_true rfl : _ ≤ lim), ?_⟩)))
    refine w_cut (fun ρ => ∃ l, ρ = [some (.lst true l), some (.int p), some (.int c), some (iT row), some (.int g), some (.int row.length), some (.str s), some (.int W), none, none, none, none, none, none, none] ∧ Bg l) ?_ fun ρ ⟨l1, eρ, g1⟩ => ?_
    · refine w_for ?_
      (repeat (first
        | refine w_bcons ?_ | refine w_asg ?_ | refine w_par ?_ | refine w_exp ?_ | refine w_ife ?_ | refine w_ret ?_ | refine w_bnil ?_ | refine w_brk ?_ | refine w_cnt ?_
        | refine w_con ?_ | refine w_bin ?_ | refine w_neg ?_ | refine w_not ?_ | refine w_and ?_ | refine w_or ?_ | refine w_ifx ?_ | refine w_cmp ?_ | refine w_chain ?_
        | refine w_anil ?_ | refine w_acons ?_ | refine w_tup ?_ | refine w_lst ?_ | refine w_sub ?_ | refine w_ono ?_ | refine w_oso ?_ | refine w_slice ?_ | refine w_blt ?_ | refine w_isi ?_
        | refine w_call ?_ | refine w_ckw ?_ | refine w_rvl ?_ | refine w_lrg ?_ | refine w_to ?_ | refine w_ft ?_ | refine w_it ?_ | refine w_rng ?_ | refine w_enu ?_ | refine w_comp ?_
        | refine w_tp ?_ | refine w_tnil ?_ | refine w_tcons ?_
        | refine w_var (d := _) rfl rfl ?_ | refine w_varO (d := _) rfl rfl ?_ | refine w_lnv (d := _) rfl rfl ?_ | refine w_sbv (d0 := _) rfl ?_ | refine w_cio (d0 := _) rfl ?_ | refine w_app (l0 := _) rfl ?_ | refine w_st (d0 := _) rfl ?_ | refine w_retv (d := _) rfl ?_
        | refine w_nm (Nat.le_of_ble_eq_true rfl) ?_
        | refine ex_some (o_add _ _) ?_ | refine ex_some (o_sub _ _) ?_ | refine ex_some rfl ?_ | refine ex_int ?_ | refine ex_lst ?_ | refine ex_sbv rfl rfl rfl ?_ | refine ex_st rfl rfl rfl ?_
        | (refine ⟨(Nat.le_of_ble_eq_true rfl : _ ≤ lim), ?_⟩)))
      obtain ⟨xs, l1, e1, hxl, g1⟩ := hO (n := row.length) (W := W) (g := g) hb (by omega) (by omega) (by omega) (by omega) (by omega) (by omega)
      refine ⟨_, _, _, rfl, e1, ?_⟩
      refine ⟨false, iA xs, by show D.lst false (D.fzA (iA xs)) = _; rw [fzA_i], ?_⟩
      refine ⟨fun k ρ => ∃ y8 y9 y10 y11, ρ = [some (.lst true l1), some (.int p), some (.int c), some (iT row), some (.int g), some (.int row.length), some (.str s), some (.int W), y8, y9, y10, y11, none, none, none], ⟨none, none, none, none, rfl⟩, fun k d ρ hdk ⟨y8, y9, y10, y11, eρ⟩ => ?_, fun ρ ⟨y8, y9, y10, y11, eρ⟩ => ?_⟩
      · subst eρ
        obtain ⟨b, rfl⟩ := enum_get hdk
        refine w_tp (w_tcons (w_nm (Nat.le_of_ble_eq_true rfl) (w_tcons (w_nm (Nat.le_of_ble_eq_true rfl) (w_tnil ?_)))))
        show wB C _ [some (.lst true l1), some (.int p), some (.int c), some (iT row), some (.int g), some (.int row.length), some (.str s), some (.int W), some (.int k), some (.int b), none, none, none, none, none] _
        (repeat (first
          | refine w_bcons ?_ | refine w_asg ?_ | refine w_par ?_ | refine w_exp ?_ | refine w_ife ?_ | refine w_ret ?_ | refine w_bnil ?_ | refine w_brk ?_ | refine w_cnt ?_
          | refine w_con ?_ | refine w_bin ?_ | refine w_neg ?_ | refine w_not ?_ | refine w_and ?_ | refine w_or ?_ | refine w_ifx ?_ | refine w_cmp ?_ | refine w_chain ?_
          | refine w_anil ?_ | refine w_acons ?_ | refine w_tup ?_ | refine w_lst ?_ | refine w_sub ?_ | refine w_ono ?_ | refine w_oso ?_ | refine w_slice ?_ | refine w_blt ?_ | refine w_isi ?_
          | refine w_call ?_ | refine w_ckw ?_ | refine w_rvl ?_ | refine w_lrg ?_ | refine w_to ?_ | refine w_ft ?_ | refine w_it ?_ | refine w_rng ?_ | refine w_enu ?_ | refine w_comp ?_
          | refine w_tp ?_ | refine w_tnil ?_ | refine w_tcons ?_
          | refine w_var (d := _) rfl rfl ?_ | refine w_varO (d := _) rfl rfl ?_ | refine w_lnv (d := _) rfl rfl ?_ | refine w_sbv (d0 := _) rfl ?_ | refine w_cio (d0 := _) rfl ?_ | refine w_app (l0 := _) rfl ?_ | refine w_st (d0 := _) rfl ?_ | refine w_retv (d := _) rfl ?_
          | refine w_nm (Nat.le_of_ble_eq_true rfl) ?_
          | refine ex_some (o_add _ _) ?_ | refine ex_some (o_sub _ _) ?_ | refine ex_some rfl ?_ | refine ex_int ?_ | refine ex_lst ?_ | refine ex_sbv rfl rfl rfl ?_ | refine ex_st rfl rfl rfl ?_
          | (refine ⟨(Nat.le_of_ble_eq_true rfl : _ ≤ lim), ?_⟩)))
        refine ⟨_, L b, ?_⟩
        (repeat (first
          | refine w_bcons ?_ | refine w_asg ?_ | refine w_par ?_ | refine w_exp ?_ | refine w_ife ?_ | refine w_ret ?_ | refine w_bnil ?_ | refine w_brk ?_ | refine w_cnt ?_
          | refine w_con ?_ | refine w_bin ?_ | refine w_neg ?_ | refine w_not ?_ | refine w_and ?_ | refine w_or ?_ | refine w_ifx ?_ | refine w_cmp ?_ | refine w_chain ?_
          | refine w_anil ?_ | refine w_acons ?_ | refine w_tup ?_ | refine w_lst ?_ | refine w_sub ?_ | refine w_ono ?_ | refine w_oso ?_ | refine w_slice ?_ | refine w_blt ?_ | refine w_isi ?_
          | refine w_call ?_ | refine w_ckw ?_ | refine w_rvl ?_ | refine w_lrg ?_ | refine w_to ?_ | refine w_ft ?_ | refine w_it ?_ | refine w_rng ?_ | refine w_enu ?_ | refine w_comp ?_
          | refine w_tp ?_ | refine w_tnil ?_ | refine w_tcons ?_
          | refine w_var (d := _) rfl rfl ?_ | refine w_varO (d := _) rfl rfl ?_ | refine w_lnv (d := _) rfl rfl ?_ | refine w_sbv (d0 := _) rfl ?_ | refine w_cio (d0 := _) rfl ?_ | refine w_app (l0 := _) rfl ?_ | refine w_st (d0 := _) rfl ?_ | refine w_retv (d := _) rfl ?_
          | refine w_nm (Nat.le_of_ble_eq_true rfl) ?_
          | refine ex_some (o_add _ _) ?_ | refine ex_some (o_sub _ _) ?_ | refine ex_some rfl ?_ | refine ex_int ?_ | refine ex_lst ?_ | refine ex_sbv rfl rfl rfl ?_ | refine ex_st rfl rfl rfl ?_
          | (refine ⟨(Nat.le_of_ble_eq_true rfl : _ ≤ lim), ?_⟩)))
        refine ex_some (z := decide (T p c row b = row)) (by show eqB (D.fz (iT _)) (D.fz (iT _)) = _; exact eq_tup _ _) ?_
        (repeat (first
          | refine w_bcons ?_ | refine w_asg ?_ | refine w_par ?_ | refine w_exp ?_ | refine w_ife ?_ | refine w_ret ?_ | refine w_bnil ?_ | refine w_brk ?_ | refine w_cnt ?_
          | refine w_con ?_ | refine w_bin ?_ | refine w_neg ?_ | refine w_not ?_ | refine w_and ?_ | refine w_or ?_ | refine w_ifx ?_ | refine w_cmp ?_ | refine w_chain ?_
          | refine w_anil ?_ | refine w_acons ?_ | refine w_tup ?_ | refine w_lst ?_ | refine w_sub ?_ | refine w_ono ?_ | refine w_oso ?_ | refine w_slice ?_ | refine w_blt ?_ | refine w_isi ?_
          | refine w_call ?_ | refine w_ckw ?_ | refine w_rvl ?_ | refine w_lrg ?_ | refine w_to ?_ | refine w_ft ?_ | refine w_it ?_ | refine w_rng ?_ | refine w_enu ?_ | refine w_comp ?_
          | refine w_tp ?_ | refine w_tnil ?_ | refine w_tcons ?_
          | refine w_var (d := _) rfl rfl ?_ | refine w_varO (d := _) rfl rfl ?_ | refine w_lnv (d := _) rfl rfl ?_ | refine w_sbv (d0 := _) rfl ?_ | refine w_cio (d0 := _) rfl ?_ | refine w_app (l0 := _) rfl ?_ | refine w_st (d0 := _) rfl ?_ | refine w_retv (d := _) rfl ?_
          | refine w_nm (Nat.le_of_ble_eq_true rfl) ?_
          | refine ex_some (o_add _ _) ?_ | refine ex_some (o_sub _ _) ?_ | refine ex_some rfl ?_ | refine ex_int ?_ | refine ex_lst ?_ | refine ex_sbv rfl rfl rfl ?_ | refine ex_st rfl rfl rfl ?_
          | (refine ⟨(Nat.le_of_ble_eq_true rfl : _ ≤ lim), ?_⟩)))
        refine ex_some (o_mod (by omega)) ?_
        (repeat (first
          | refine w_bcons ?_ | refine w_asg ?_ | refine w_par ?_ | refine w_exp ?_ | refine w_ife ?_ | refine w_ret ?_ | refine w_bnil ?_ | refine w_brk ?_ | refine w_cnt ?_
          | refine w_con ?_ | refine w_bin ?_ | refine w_neg ?_ | refine w_not ?_ | refine w_and ?_ | refine w_or ?_ | refine w_ifx ?_ | refine w_cmp ?_ | refine w_chain ?_
          | refine w_anil ?_ | refine w_acons ?_ | refine w_tup ?_ | refine w_lst ?_ | refine w_sub ?_ | refine w_ono ?_ | refine w_oso ?_ | refine w_slice ?_ | refine w_blt ?_ | refine w_isi ?_
          | refine w_call ?_ | refine w_ckw ?_ | refine w_rvl ?_ | refine w_lrg ?_ | refine w_to ?_ | refine w_ft ?_ | refine w_it ?_ | refine w_rng ?_ | refine w_enu ?_ | refine w_comp ?_
          | refine w_tp ?_ | refine w_tnil ?_ | refine w_tcons ?_
          | refine w_var (d := _) rfl rfl ?_ | refine w_varO (d := _) rfl rfl ?_ | refine w_lnv (d := _) rfl rfl ?_ | refine w_sbv (d0 := _) rfl ?_ | refine w_cio (d0 := _) rfl ?_ | refine w_app (l0 := _) rfl ?_ | refine w_st (d0 := _) rfl ?_ | refine w_retv (d := _) rfl ?_
          | refine w_nm (Nat.le_of_ble_eq_true rfl) ?_
          | refine ex_some (o_add _ _) ?_ | refine ex_some (o_sub _ _) ?_ | refine ex_some rfl ?_ | refine ex_int ?_ | refine ex_lst ?_ | refine ex_sbv rfl rfl rfl ?_ | refine ex_st rfl rfl rfl ?_
          | (refine ⟨(Nat.le_of_ble_eq_true rfl : _ ≤ lim), ?_⟩)))
        refine ex_not ?_ ?_
        · show (!decide (decide (T p c row b = row) = decide (b % (g : Int) = 0))) = false
          rw [decide_eq_true (decide_eq_decide.mpr (pr.iff b))]
          rfl
        · refine w_bnil ?_
          refine w_then (fun ρ => ρ = [some (.lst true l1), some (.int p), some (.int c), some (iT row), some (.int g), some (.int row.length), some (.str s), some (.int W), some (.int k), some (.int b), some (iT (T p c row b)), some (iT (T p c row b)), none, none, none]) ?_ fun ρ eρ => ?_
          · (repeat (first
              | refine w_bcons ?_ | refine w_asg ?_ | refine w_par ?_ | refine w_exp ?_ | refine w_ife ?_ | refine w_ret ?_ | refine w_bnil ?_ | refine w_brk ?_ | refine w_cnt ?_
              | refine w_con ?_ | refine w_bin ?_ | refine w_neg ?_ | refine w_not ?_ | refine w_and ?_ | refine w_or ?_ | refine w_ifx ?_ | refine w_cmp ?_ | refine w_chain ?_
              | refine w_anil ?_ | refine w_acons ?_ | refine w_tup ?_ | refine w_lst ?_ | refine w_sub ?_ | refine w_ono ?_ | refine w_oso ?_ | refine w_slice ?_ | refine w_blt ?_ | refine w_isi ?_
              | refine w_call ?_ | refine w_ckw ?_ | refine w_rvl ?_ | refine w_lrg ?_ | refine w_to ?_ | refine w_ft ?_ | refine w_it ?_ | refine w_rng ?_ | refine w_enu ?_ | refine w_comp ?_
              | refine w_tp ?_ | refine w_tnil ?_ | refine w_tcons ?_
              | refine w_var (d := _) rfl rfl ?_ | refine w_varO (d := _) rfl rfl ?_ | refine w_lnv (d := _) rfl rfl ?_ | refine w_sbv (d0 := _) rfl ?_ | refine w_cio (d0 := _) rfl ?_ | refine w_app (l0 := _) rfl ?_ | refine w_st (d0 := _) rfl ?_ | refine w_retv (d := _) rfl ?_
              | refine w_nm (Nat.le_of_ble_eq_true rfl) ?_
              | refine ex_some (o_add _ _) ?_ | refine ex_some (o_sub _ _) ?_ | refine ex_some rfl ?_ | refine ex_int ?_ | refine ex_lst ?_ | refine ex_sbv rfl rfl rfl ?_ | refine ex_st rfl rfl rfl ?_
              | (refine ⟨(Nat.le_of_ble_eq_true rfl : _ ≤ lim), ?_⟩)))
            refine ex_dec (fun _ => ?_) (fun _ => ?_)
            · (repeat (first
                | refine w_bcons ?_ | refine w_asg ?_ | refine w_par ?_ | refine w_exp ?_ | refine w_ife ?_ | refine w_ret ?_ | refine w_bnil ?_ | refine w_brk ?_ | refine w_cnt ?_
                | refine w_con ?_ | refine w_bin ?_ | refine w_neg ?_ | refine w_not ?_ | refine w_and ?_ | refine w_or ?_ | refine w_ifx ?_ | refine w_cmp ?_ | refine w_chain ?_
                | refine w_anil ?_ | refine w_acons ?_ | refine w_tup ?_ | refine w_lst ?_ | refine w_sub ?_ | refine w_ono ?_ | refine w_oso ?_ | refine w_slice ?_ | refine w_blt ?_ | refine w_isi ?_
                | refine w_call ?_ | refine w_ckw ?_ | refine w_rvl ?_ | refine w_lrg ?_ | refine w_to ?_ | refine w_ft ?_ | refine w_it ?_ | refine w_rng ?_ | refine w_enu ?_ | refine w_comp ?_
                | refine w_tp ?_ | refine w_tnil ?_ | refine w_tcons ?_
                | refine w_var (d := _) rfl rfl ?_ | refine w_varO (d := _) rfl rfl ?_ | refine w_lnv (d := _) rfl rfl ?_ | refine w_sbv (d0 := _) rfl ?_ | refine w_cio (d0 := _) rfl ?_ | refine w_app (l0 := _) rfl ?_ | refine w_st (d0 := _) rfl ?_ | refine w_retv (d := _) rfl ?_
                | refine w_nm (Nat.le_of_ble_eq_true rfl) ?_
                | refine ex_some (o_add _ _) ?_ | refine ex_some (o_sub _ _) ?_ | refine ex_some rfl ?_ | refine ex_int ?_ | refine ex_lst ?_ | refine ex_sbv rfl rfl rfl ?_ | refine ex_st rfl rfl rfl ?_
                | (refine ⟨(Nat.le_of_ble_eq_true rfl : _ ≤ lim), ?_⟩)))
              refine ⟨_, B b, ?_⟩
              (repeat (first
                | refine w_bcons ?_ | refine w_asg ?_ | refine w_par ?_ | refine w_exp ?_ | refine w_ife ?_ | refine w_ret ?_ | refine w_bnil ?_ | refine w_brk ?_ | refine w_cnt ?_
                | refine w_con ?_ | refine w_bin ?_ | refine w_neg ?_ | refine w_not ?_ | refine w_and ?_ | refine w_or ?_ | refine w_ifx ?_ | refine w_cmp ?_ | refine w_chain ?_
                | refine w_anil ?_ | refine w_acons ?_ | refine w_tup ?_ | refine w_lst ?_ | refine w_sub ?_ | refine w_ono ?_ | refine w_oso ?_ | refine w_slice ?_ | refine w_blt ?_ | refine w_isi ?_
                | refine w_call ?_ | refine w_ckw ?_ | refine w_rvl ?_ | refine w_lrg ?_ | refine w_to ?_ | refine w_ft ?_ | refine w_it ?_ | refine w_rng ?_ | refine w_enu ?_ | refine w_comp ?_
                | refine w_tp ?_ | refine w_tnil ?_ | refine w_tcons ?_
                | refine w_var (d := _) rfl rfl ?_ | refine w_varO (d := _) rfl rfl ?_ | refine w_lnv (d := _) rfl rfl ?_ | refine w_sbv (d0 := _) rfl ?_ | refine w_cio (d0 := _) rfl ?_ | refine w_app (l0 := _) rfl ?_ | refine w_st (d0 := _) rfl ?_ | refine w_retv (d := _) rfl ?_
                | refine w_nm (Nat.le_of_ble_eq_true rfl) ?_
                | refine ex_some (o_add _ _) ?_ | refine ex_some (o_sub _ _) ?_ | refine ex_some rfl ?_ | refine ex_int ?_ | refine ex_lst ?_ | refine ex_sbv rfl rfl rfl ?_ | refine ex_st rfl rfl rfl ?_
                | (refine ⟨(Nat.le_of_ble_eq_true rfl : _ ≤ lim), ?_⟩)))
              exact ⟨rfl, rfl⟩
            · (repeat (first
                | refine w_bcons ?_ | refine w_asg ?_ | refine w_par ?_ | refine w_exp ?_ | refine w_ife ?_ | refine w_ret ?_ | refine w_bnil ?_ | refine w_brk ?_ | refine w_cnt ?_
                | refine w_con ?_ | refine w_bin ?_ | refine w_neg ?_ | refine w_not ?_ | refine w_and ?_ | refine w_or ?_ | refine w_ifx ?_ | refine w_cmp ?_ | refine w_chain ?_
                | refine w_anil ?_ | refine w_acons ?_ | refine w_tup ?_ | refine w_lst ?_ | refine w_sub ?_ | refine w_ono ?_ | refine w_oso ?_ | refine w_slice ?_ | refine w_blt ?_ | refine w_isi ?_
                | refine w_call ?_ | refine w_ckw ?_ | refine w_rvl ?_ | refine w_lrg ?_ | refine w_to ?_ | refine w_ft ?_ | refine w_it ?_ | refine w_rng ?_ | refine w_enu ?_ | refine w_comp ?_
                | refine w_tp ?_ | refine w_tnil ?_ | refine w_tcons ?_
                | refine w_var (d := _) rfl rfl ?_ | refine w_varO (d := _) rfl rfl ?_ | refine w_lnv (d := _) rfl rfl ?_ | refine w_sbv (d0 := _) rfl ?_ | refine w_cio (d0 := _) rfl ?_ | refine w_app (l0 := _) rfl ?_ | refine w_st (d0 := _) rfl ?_ | refine w_retv (d := _) rfl ?_
                | refine w_nm (Nat.le_of_ble_eq_true rfl) ?_
                | refine ex_some (o_add _ _) ?_ | refine ex_some (o_sub _ _) ?_ | refine ex_some rfl ?_ | refine ex_int ?_ | refine ex_lst ?_ | refine ex_sbv rfl rfl rfl ?_ | refine ex_st rfl rfl rfl ?_
                | (refine ⟨(Nat.le_of_ble_eq_true rfl : _ ≤ lim), ?_⟩)))
              refine ⟨_, B b, ?_⟩
              (repeat (first
                | refine w_bcons ?_ | refine w_asg ?_ | refine w_par ?_ | refine w_exp ?_ | refine w_ife ?_ | refine w_ret ?_ | refine w_bnil ?_ | refine w_brk ?_ | refine w_cnt ?_
                | refine w_con ?_ | refine w_bin ?_ | refine w_neg ?_ | refine w_not ?_ | refine w_and ?_ | refine w_or ?_ | refine w_ifx ?_ | refine w_cmp ?_ | refine w_chain ?_
                | refine w_anil ?_ | refine w_acons ?_ | refine w_tup ?_ | refine w_lst ?_ | refine w_sub ?_ | refine w_ono ?_ | refine w_oso ?_ | refine w_slice ?_ | refine w_blt ?_ | refine w_isi ?_
                | refine w_call ?_ | refine w_ckw ?_ | refine w_rvl ?_ | refine w_lrg ?_ | refine w_to ?_ | refine w_ft ?_ | refine w_it ?_ | refine w_rng ?_ | refine w_enu ?_ | refine w_comp ?_
                | refine w_tp ?_ | refine w_tnil ?_ | refine w_tcons ?_
                | refine w_var (d := _) rfl rfl ?_ | refine w_varO (d := _) rfl rfl ?_ | refine w_lnv (d := _) rfl rfl ?_ | refine w_sbv (d0 := _) rfl ?_ | refine w_cio (d0 := _) rfl ?_ | refine w_app (l0 := _) rfl ?_ | refine w_st (d0 := _) rfl ?_ | refine w_retv (d := _) rfl ?_
                | refine w_nm (Nat.le_of_ble_eq_true rfl) ?_
                | refine ex_some (o_add _ _) ?_ | refine ex_some (o_sub _ _) ?_ | refine ex_some rfl ?_ | refine ex_int ?_ | refine ex_lst ?_ | refine ex_sbv rfl rfl rfl ?_ | refine ex_st rfl rfl rfl ?_
                | (refine ⟨(Nat.le_of_ble_eq_true rfl : _ ≤ lim), ?_⟩)))
              exact ⟨rfl, rfl⟩
          · subst eρ
            (repeat (first
              | refine w_bcons ?_ | refine w_asg ?_ | refine w_par ?_ | refine w_exp ?_ | refine w_ife ?_ | refine w_ret ?_ | refine w_bnil ?_ | refine w_brk ?_ | refine w_cnt ?_
              | refine w_con ?_ | refine w_bin ?_ | refine w_neg ?_ | refine w_not ?_ | refine w_and ?_ | refine w_or ?_ | refine w_ifx ?_ | refine w_cmp ?_ | refine w_chain ?_
              | refine w_anil ?_ | refine w_acons ?_ | refine w_tup ?_ | refine w_lst ?_ | refine w_sub ?_ | refine w_ono ?_ | refine w_oso ?_ | refine w_slice ?_ | refine w_blt ?_ | refine w_isi ?_
              | refine w_call ?_ | refine w_ckw ?_ | refine w_rvl ?_ | refine w_lrg ?_ | refine w_to ?_ | refine w_ft ?_ | refine w_it ?_ | refine w_rng ?_ | refine w_enu ?_ | refine w_comp ?_
              | refine w_tp ?_ | refine w_tnil ?_ | refine w_tcons ?_
              | refine w_var (d := _) rfl rfl ?_ | refine w_varO (d := _) rfl rfl ?_ | refine w_lnv (d := _) rfl rfl ?_ | refine w_sbv (d0 := _) rfl ?_ | refine w_cio (d0 := _) rfl ?_ | refine w_app (l0 := _) rfl ?_ | refine w_st (d0 := _) rfl ?_ | refine w_retv (d := _) rfl ?_
              | refine w_nm (Nat.le_of_ble_eq_true rfl) ?_
              | refine ex_some (o_add _ _) ?_ | refine ex_some (o_sub _ _) ?_ | refine ex_some rfl ?_ | refine ex_int ?_ | refine ex_lst ?_ | refine ex_sbv rfl rfl rfl ?_ | refine ex_st rfl rfl rfl ?_
              | (refine ⟨(Nat.le_of_ble_eq_true rfl : _ ≤ lim), ?_⟩)))
            refine ⟨_, R b, ?_⟩
            refine ex_bl ?_
            refine ex_not rfl ?_
            (repeat (first
              | refine w_bcons ?_ | refine w_asg ?_ | refine w_par ?_ | refine w_exp ?_ | refine w_ife ?_ | refine w_ret ?_ | refine w_bnil ?_ | refine w_brk ?_ | refine w_cnt ?_
              | refine w_con ?_ | refine w_bin ?_ | refine w_neg ?_ | refine w_not ?_ | refine w_and ?_ | refine w_or ?_ | refine w_ifx ?_ | refine w_cmp ?_ | refine w_chain ?_
              | refine w_anil ?_ | refine w_acons ?_ | refine w_tup ?_ | refine w_lst ?_ | refine w_sub ?_ | refine w_ono ?_ | refine w_oso ?_ | refine w_slice ?_ | refine w_blt ?_ | refine w_isi ?_
              | refine w_call ?_ | refine w_ckw ?_ | refine w_rvl ?_ | refine w_lrg ?_ | refine w_to ?_ | refine w_ft ?_ | refine w_it ?_ | refine w_rng ?_ | refine w_enu ?_ | refine w_comp ?_
              | refine w_tp ?_ | refine w_tnil ?_ | refine w_tcons ?_
              | refine w_var (d := _) rfl rfl ?_ | refine w_varO (d := _) rfl rfl ?_ | refine w_lnv (d := _) rfl rfl ?_ | refine w_sbv (d0 := _) rfl ?_ | refine w_cio (d0 := _) rfl ?_ | refine w_app (l0 := _) rfl ?_ | refine w_st (d0 := _) rfl ?_ | refine w_retv (d := _) rfl ?_
              | refine w_nm (Nat.le_of_ble_eq_true rfl) ?_
              | refine ex_some (o_add _ _) ?_ | refine ex_some (o_sub _ _) ?_ | refine ex_some rfl ?_ | refine ex_int ?_ | refine ex_lst ?_ | refine ex_sbv rfl rfl rfl ?_ | refine ex_st rfl rfl rfl ?_
              | (refine ⟨(Nat.le_of_ble_eq_true rfl : _ ≤ lim), ?_⟩)))
            refine ⟨_, B b, ?_⟩
            (repeat (first
              | refine w_bcons ?_ | refine w_asg ?_ | refine w_par ?_ | refine w_exp ?_ | refine w_ife ?_ | refine w_ret ?_ | refine w_bnil ?_ | refine w_brk ?_ | refine w_cnt ?_
              | refine w_con ?_ | refine w_bin ?_ | refine w_neg ?_ | refine w_not ?_ | refine w_and ?_ | refine w_or ?_ | refine w_ifx ?_ | refine w_cmp ?_ | refine w_chain ?_
              | refine w_anil ?_ | refine w_acons ?_ | refine w_tup ?_ | refine w_lst ?_ | refine w_sub ?_ | refine w_ono ?_ | refine w_oso ?_ | refine w_slice ?_ | refine w_blt ?_ | refine w_isi ?_
              | refine w_call ?_ | refine w_ckw ?_ | refine w_rvl ?_ | refine w_lrg ?_ | refine w_to ?_ | refine w_ft ?_ | refine w_it ?_ | refine w_rng ?_ | refine w_enu ?_ | refine w_comp ?_
              | refine w_tp ?_ | refine w_tnil ?_ | refine w_tcons ?_
              | refine w_var (d := _) rfl rfl ?_ | refine w_varO (d := _) rfl rfl ?_ | refine w_lnv (d := _) rfl rfl ?_ | refine w_sbv (d0 := _) rfl ?_ | refine w_cio (d0 := _) rfl ?_ | refine w_app (l0 := _) rfl ?_ | refine w_st (d0 := _) rfl ?_ | refine w_retv (d := _) rfl ?_
              | refine w_nm (Nat.le_of_ble_eq_true rfl) ?_
              | refine ex_some (o_add _ _) ?_ | refine ex_some (o_sub _ _) ?_ | refine ex_some rfl ?_ | refine ex_int ?_ | refine ex_lst ?_ | refine ex_sbv rfl rfl rfl ?_ | refine ex_st rfl rfl rfl ?_
              | (refine ⟨(Nat.le_of_ble_eq_true rfl : _ ≤ lim), ?_⟩)))
            refine ⟨_, R b, ?_⟩
            refine ex_bl ?_
            refine ex_not rfl ?_
            (repeat (first
              | refine w_bcons ?_ | refine w_asg ?_ | refine w_par ?_ | refine w_exp ?_ | refine w_ife ?_ | refine w_ret ?_ | refine w_bnil ?_ | refine w_brk ?_ | refine w_cnt ?_
              | refine w_con ?_ | refine w_bin ?_ | refine w_neg ?_ | refine w_not ?_ | refine w_and ?_ | refine w_or ?_ | refine w_ifx ?_ | refine w_cmp ?_ | refine w_chain ?_
              | refine w_anil ?_ | refine w_acons ?_ | refine w_tup ?_ | refine w_lst ?_ | refine w_sub ?_ | refine w_ono ?_ | refine w_oso ?_ | refine w_slice ?_ | refine w_blt ?_ | refine w_isi ?_
              | refine w_call ?_ | refine w_ckw ?_ | refine w_rvl ?_ | refine w_lrg ?_ | refine w_to ?_ | refine w_ft ?_ | refine w_it ?_ | refine w_rng ?_ | refine w_enu ?_ | refine w_comp ?_
              | refine w_tp ?_ | refine w_tnil ?_ | refine w_tcons ?_
              | refine w_var (d := _) rfl rfl ?_ | refine w_varO (d := _) rfl rfl ?_ | refine w_lnv (d := _) rfl rfl ?_ | refine w_sbv (d0 := _) rfl ?_ | refine w_cio (d0 := _) rfl ?_ | refine w_app (l0 := _) rfl ?_ | refine w_st (d0 := _) rfl ?_ | refine w_retv (d := _) rfl ?_
              | refine w_nm (Nat.le_of_ble_eq_true rfl) ?_
              | refine ex_some (o_add _ _) ?_ | refine ex_some (o_sub _ _) ?_ | refine ex_some rfl ?_ | refine ex_int ?_ | refine ex_lst ?_ | refine ex_sbv rfl rfl rfl ?_ | refine ex_st rfl rfl rfl ?_
              | (refine ⟨(Nat.le_of_ble_eq_true rfl : _ ≤ lim), ?_⟩)))
            refine ⟨_, BT b (-b), ?_⟩
            rw [T_T h hn, show b + -b = 0 from by omega, T_own h hr]
            (repeat (first
              | refine w_bcons ?_ | refine w_asg ?_ | refine w_par ?_ | refine w_exp ?_ | refine w_ife ?_ | refine w_ret ?_ | refine w_bnil ?_ | refine w_brk ?_ | refine w_cnt ?_
              | refine w_con ?_ | refine w_bin ?_ | refine w_neg ?_ | refine w_not ?_ | refine w_and ?_ | refine w_or ?_ | refine w_ifx ?_ | refine w_cmp ?_ | refine w_chain ?_
              | refine w_anil ?_ | refine w_acons ?_ | refine w_tup ?_ | refine w_lst ?_ | refine w_sub ?_ | refine w_ono ?_ | refine w_oso ?_ | refine w_slice ?_ | refine w_blt ?_ | refine w_isi ?_
              | refine w_call ?_ | refine w_ckw ?_ | refine w_rvl ?_ | refine w_lrg ?_ | refine w_to ?_ | refine w_ft ?_ | refine w_it ?_ | refine w_rng ?_ | refine w_enu ?_ | refine w_comp ?_
              | refine w_tp ?_ | refine w_tnil ?_ | refine w_tcons ?_
              | refine w_var (d := _) rfl rfl ?_ | refine w_varO (d := _) rfl rfl ?_ | refine w_lnv (d := _) rfl rfl ?_ | refine w_sbv (d0 := _) rfl ?_ | refine w_cio (d0 := _) rfl ?_ | refine w_app (l0 := _) rfl ?_ | refine w_st (d0 := _) rfl ?_ | refine w_retv (d := _) rfl ?_
              | refine w_nm (Nat.le_of_ble_eq_true rfl) ?_
              | refine ex_some (o_add _ _) ?_ | refine ex_some (o_sub _ _) ?_ | refine ex_some rfl ?_ | refine ex_int ?_ | refine ex_lst ?_ | refine ex_sbv rfl rfl rfl ?_ | refine ex_st rfl rfl rfl ?_
              | (refine ⟨(Nat.le_of_ble_eq_true rfl : _ ≤ lim), ?_⟩)))
            refine ⟨_, R0, ?_⟩
            refine ex_bl ?_
            refine ex_not rfl ?_
            (repeat (first
              | refine w_bcons ?_ | refine w_asg ?_ | refine w_par ?_ | refine w_exp ?_ | refine w_ife ?_ | refine w_ret ?_ | refine w_bnil ?_ | refine w_brk ?_ | refine w_cnt ?_
              | refine w_con ?_ | refine w_bin ?_ | refine w_neg ?_ | refine w_not ?_ | refine w_and ?_ | refine w_or ?_ | refine w_ifx ?_ | refine w_cmp ?_ | refine w_chain ?_
              | refine w_anil ?_ | refine w_acons ?_ | refine w_tup ?_ | refine w_lst ?_ | refine w_sub ?_ | refine w_ono ?_ | refine w_oso ?_ | refine w_slice ?_ | refine w_blt ?_ | refine w_isi ?_
              | refine w_call ?_ | refine w_ckw ?_ | refine w_rvl ?_ | refine w_lrg ?_ | refine w_to ?_ | refine w_ft ?_ | refine w_it ?_ | refine w_rng ?_ | refine w_enu ?_ | refine w_comp ?_
              | refine w_tp ?_ | refine w_tnil ?_ | refine w_tcons ?_
              | refine w_var (d := _) rfl rfl ?_ | refine w_varO (d := _) rfl rfl ?_ | refine w_lnv (d := _) rfl rfl ?_ | refine w_sbv (d0 := _) rfl ?_ | refine w_cio (d0 := _) rfl ?_ | refine w_app (l0 := _) rfl ?_ | refine w_st (d0 := _) rfl ?_ | refine w_retv (d := _) rfl ?_
              | refine w_nm (Nat.le_of_ble_eq_true rfl) ?_
              | refine ex_some (o_add _ _) ?_ | refine ex_some (o_sub _ _) ?_ | refine ex_some rfl ?_ | refine ex_int ?_ | refine ex_lst ?_ | refine ex_sbv rfl rfl rfl ?_ | refine ex_st rfl rfl rfl ?_
              | (refine ⟨(Nat.le_of_ble_eq_true rfl : _ ≤ lim), ?_⟩)))
            exact ⟨_, _, _, _, rfl⟩
      · subst eρ
        exact ⟨rfl, l1, rfl, g1⟩
    · subst eρ
      refine w_then (fun ρ => ∃ l i j, ρ = [some (.lst true l), some (.int p), some (.int c), some (iT row), some (.int g), some (.int row.length), some (.str s), some (.int W), none, none, none, none, some (.int i), some (.int j), none] ∧ Bg l) ?_ fun ρ ⟨l2, i, j, eρ, g2⟩ => ?_
      · (repeat (first
          | refine w_bcons ?_ | refine w_asg ?_ | refine w_par ?_ | refine w_exp ?_ | refine w_ife ?_ | refine w_ret ?_ | refine w_bnil ?_ | refine w_brk ?_ | refine w_cnt ?_
          | refine w_con ?_ | refine w_bin ?_ | refine w_neg ?_ | refine w_not ?_ | refine w_and ?_ | refine w_or ?_ | refine w_ifx ?_ | refine w_cmp ?_ | refine w_chain ?_
          | refine w_anil ?_ | refine w_acons ?_ | refine w_tup ?_ | refine w_lst ?_ | refine w_sub ?_ | refine w_ono ?_ | refine w_oso ?_ | refine w_slice ?_ | refine w_blt ?_ | refine w_isi ?_
          | refine w_call ?_ | refine w_ckw ?_ | refine w_rvl ?_ | refine w_lrg ?_ | refine w_to ?_ | refine w_ft ?_ | refine w_it ?_ | refine w_rng ?_ | refine w_enu ?_ | refine w_comp ?_
          | refine w_tp ?_ | refine w_tnil ?_ | refine w_tcons ?_
          | refine w_var (d := _) rfl rfl ?_ | refine w_varO (d := _) rfl rfl ?_ | refine w_lnv (d := _) rfl rfl ?_ | refine w_sbv (d0 := _) rfl ?_ | refine w_cio (d0 := _) rfl ?_ | refine w_app (l0 := _) rfl ?_ | refine w_st (d0 := _) rfl ?_ | refine w_retv (d := _) rfl ?_
          | refine w_nm (Nat.le_of_ble_eq_true rfl) ?_
          | refine ex_some (o_add _ _) ?_ | refine ex_some (o_sub _ _) ?_ | refine ex_some rfl ?_ | refine ex_int ?_ | refine ex_lst ?_ | refine ex_sbv rfl rfl rfl ?_ | refine ex_st rfl rfl rfl ?_
          | (refine ⟨(Nat.le_of_ble_eq_true rfl : _ ≤ lim), ?_⟩)))
        obtain ⟨i, l2, e2, _, _, g2⟩ := A.int l1 g1
        refine ⟨_, _, _, rfl, e2, ?_⟩
        (repeat (first
          | refine w_bcons ?_ | refine w_asg ?_ | refine w_par ?_ | refine w_exp ?_ | refine w_ife ?_ | refine w_ret ?_ | refine w_bnil ?_ | refine w_brk ?_ | refine w_cnt ?_
          | refine w_con ?_ | refine w_bin ?_ | refine w_neg ?_ | refine w_not ?_ | refine w_and ?_ | refine w_or ?_ | refine w_ifx ?_ | refine w_cmp ?_ | refine w_chain ?_
          | refine w_anil ?_ | refine w_acons ?_ | refine w_tup ?_ | refine w_lst ?_ | refine w_sub ?_ | refine w_ono ?_ | refine w_oso ?_ | refine w_slice ?_ | refine w_blt ?_ | refine w_isi ?_
          | refine w_call ?_ | refine w_ckw ?_ | refine w_rvl ?_ | refine w_lrg ?_ | refine w_to ?_ | refine w_ft ?_ | refine w_it ?_ | refine w_rng ?_ | refine w_enu ?_ | refine w_comp ?_
          | refine w_tp ?_ | refine w_tnil ?_ | refine w_tcons ?_
          | refine w_var (d := _) rfl rfl ?_ | refine w_varO (d := _) rfl rfl ?_ | refine w_lnv (d := _) rfl rfl ?_ | refine w_sbv (d0 := _) rfl ?_ | refine w_cio (d0 := _) rfl ?_ | refine w_app (l0 := _) rfl ?_ | refine w_st (d0 := _) rfl ?_ | refine w_retv (d := _) rfl ?_
          | refine w_nm (Nat.le_of_ble_eq_true rfl) ?_
          | refine ex_some (o_add _ _) ?_ | refine ex_some (o_sub _ _) ?_ | refine ex_some rfl ?_ | refine ex_int ?_ | refine ex_lst ?_ | refine ex_sbv rfl rfl rfl ?_ | refine ex_st rfl rfl rfl ?_
          | (refine ⟨(Nat.le_of_ble_eq_true rfl : _ ≤ lim), ?_⟩)))
        obtain ⟨j, l3, e3, _, _, g3⟩ := A.int l2 g2
        refine ⟨_, _, _, rfl, e3, ?_⟩
        (repeat (first
          | refine w_bcons ?_ | refine w_asg ?_ | refine w_par ?_ | refine w_exp ?_ | refine w_ife ?_ | refine w_ret ?_ | refine w_bnil ?_ | refine w_brk ?_ | refine w_cnt ?_
          | refine w_con ?_ | refine w_bin ?_ | refine w_neg ?_ | refine w_not ?_ | refine w_and ?_ | refine w_or ?_ | refine w_ifx ?_ | refine w_cmp ?_ | refine w_chain ?_
          | refine w_anil ?_ | refine w_acons ?_ | refine w_tup ?_ | refine w_lst ?_ | refine w_sub ?_ | refine w_ono ?_ | refine w_oso ?_ | refine w_slice ?_ | refine w_blt ?_ | refine w_isi ?_
          | refine w_call ?_ | refine w_ckw ?_ | refine w_rvl ?_ | refine w_lrg ?_ | refine w_to ?_ | refine w_ft ?_ | refine w_it ?_ | refine w_rng ?_ | refine w_enu ?_ | refine w_comp ?_
          | refine w_tp ?_ | refine w_tnil ?_ | refine w_tcons ?_
          | refine w_var (d := _) rfl rfl ?_ | refine w_varO (d := _) rfl rfl ?_ | refine w_lnv (d := _) rfl rfl ?_ | refine w_sbv (d0 := _) rfl ?_ | refine w_cio (d0 := _) rfl ?_ | refine w_app (l0 := _) rfl ?_ | refine w_st (d0 := _) rfl ?_ | refine w_retv (d := _) rfl ?_
          | refine w_nm (Nat.le_of_ble_eq_true rfl) ?_
          | refine ex_some (o_add _ _) ?_ | refine ex_some (o_sub _ _) ?_ | refine ex_some rfl ?_ | refine ex_int ?_ | refine ex_lst ?_ | refine ex_sbv rfl rfl rfl ?_ | refine ex_st rfl rfl rfl ?_
          | (refine ⟨(Nat.le_of_ble_eq_true rfl : _ ≤ lim), ?_⟩)))
        exact ⟨rfl, l3, i, j, rfl, g3⟩
      · subst eρ
        refine w_then (fun ρ => ∃ j, ρ = [some (.lst true l2), some (.int p), some (.int c), some (iT row), some (.int g), some (.int row.length), some (.str s), some (.int W), none, none, none, none, some (.int i), some (.int j), none]) ?_ fun ρ ⟨j, eρ⟩ => ?_
        · (repeat (first
            | refine w_bcons ?_ | refine w_asg ?_ | refine w_par ?_ | refine w_exp ?_ | refine w_ife ?_ | refine w_ret ?_ | refine w_bnil ?_ | refine w_brk ?_ | refine w_cnt ?_
            | refine w_con ?_ | refine w_bin ?_ | refine w_neg ?_ | refine w_not ?_ | refine w_and ?_ | refine w_or ?_ | refine w_ifx ?_ | refine w_cmp ?_ | refine w_chain ?_
            | refine w_anil ?_ | refine w_acons ?_ | refine w_tup ?_ | refine w_lst ?_ | refine w_sub ?_ | refine w_ono ?_ | refine w_oso ?_ | refine w_slice ?_ | refine w_blt ?_ | refine w_isi ?_
            | refine w_call ?_ | refine w_ckw ?_ | refine w_rvl ?_ | refine w_lrg ?_ | refine w_to ?_ | refine w_ft ?_ | refine w_it ?_ | refine w_rng ?_ | refine w_enu ?_ | refine w_comp ?_
            | refine w_tp ?_ | refine w_tnil ?_ | refine w_tcons ?_
            | refine w_var (d := _) rfl rfl ?_ | refine w_varO (d := _) rfl rfl ?_ | refine w_lnv (d := _) rfl rfl ?_ | refine w_sbv (d0 := _) rfl ?_ | refine w_cio (d0 := _) rfl ?_ | refine w_app (l0 := _) rfl ?_ | refine w_st (d0 := _) rfl ?_ | refine w_retv (d := _) rfl ?_
            | refine w_nm (Nat.le_of_ble_eq_true rfl) ?_
            | refine ex_some (o_add _ _) ?_ | refine ex_some (o_sub _ _) ?_ | refine ex_some rfl ?_ | refine ex_int ?_ | refine ex_lst ?_ | refine ex_sbv rfl rfl rfl ?_ | refine ex_st rfl rfl rfl ?_
            | (refine ⟨(Nat.le_of_ble_eq_true rfl : _ ≤ lim), ?_⟩)))
          refine ex_dec (fun _ => ?_) (fun _ => ?_)
          · (repeat (first
              | refine w_bcons ?_ | refine w_asg ?_ | refine w_par ?_ | refine w_exp ?_ | refine w_ife ?_ | refine w_ret ?_ | refine w_bnil ?_ | refine w_brk ?_ | refine w_cnt ?_
              | refine w_con ?_ | refine w_bin ?_ | refine w_neg ?_ | refine w_not ?_ | refine w_and ?_ | refine w_or ?_ | refine w_ifx ?_ | refine w_cmp ?_ | refine w_chain ?_
              | refine w_anil ?_ | refine w_acons ?_ | refine w_tup ?_ | refine w_lst ?_ | refine w_sub ?_ | refine w_ono ?_ | refine w_oso ?_ | refine w_slice ?_ | refine w_blt ?_ | refine w_isi ?_
              | refine w_call ?_ | refine w_ckw ?_ | refine w_rvl ?_ | refine w_lrg ?_ | refine w_to ?_ | refine w_ft ?_ | refine w_it ?_ | refine w_rng ?_ | refine w_enu ?_ | refine w_comp ?_
              | refine w_tp ?_ | refine w_tnil ?_ | refine w_tcons ?_
              | refine w_var (d := _) rfl rfl ?_ | refine w_varO (d := _) rfl rfl ?_ | refine w_lnv (d := _) rfl rfl ?_ | refine w_sbv (d0 := _) rfl ?_ | refine w_cio (d0 := _) rfl ?_ | refine w_app (l0 := _) rfl ?_ | refine w_st (d0 := _) rfl ?_ | refine w_retv (d := _) rfl ?_
              | refine w_nm (Nat.le_of_ble_eq_true rfl) ?_
              | refine ex_some (o_add _ _) ?_ | refine ex_some (o_sub _ _) ?_ | refine ex_some rfl ?_ | refine ex_int ?_ | refine ex_lst ?_ | refine ex_sbv rfl rfl rfl ?_ | refine ex_st rfl rfl rfl ?_
              | (refine ⟨(Nat.le_of_ble_eq_true rfl : _ ≤ lim), ?_⟩)))
            exact ⟨rfl, -j, rfl⟩
          · exact w_bnil ⟨rfl, j, rfl⟩
        · subst eρ
          (repeat (first
            | refine w_bcons ?_ | refine w_asg ?_ | refine w_par ?_ | refine w_exp ?_ | refine w_ife ?_ | refine w_ret ?_ | refine w_bnil ?_ | refine w_brk ?_ | refine w_cnt ?_
            | refine w_con ?_ | refine w_bin ?_ | refine w_neg ?_ | refine w_not ?_ | refine w_and ?_ | refine w_or ?_ | refine w_ifx ?_ | refine w_cmp ?_ | refine w_chain ?_
            | refine w_anil ?_ | refine w_acons ?_ | refine w_tup ?_ | refine w_lst ?_ | refine w_sub ?_ | refine w_ono ?_ | refine w_oso ?_ | refine w_slice ?_ | refine w_blt ?_ | refine w_isi ?_
            | refine w_call ?_ | refine w_ckw ?_ | refine w_rvl ?_ | refine w_lrg ?_ | refine w_to ?_ | refine w_ft ?_ | refine w_it ?_ | refine w_rng ?_ | refine w_enu ?_ | refine w_comp ?_
            | refine w_tp ?_ | refine w_tnil ?_ | refine w_tcons ?_
            | refine w_var (d := _) rfl rfl ?_ | refine w_varO (d := _) rfl rfl ?_ | refine w_lnv (d := _) rfl rfl ?_ | refine w_sbv (d0 := _) rfl ?_ | refine w_cio (d0 := _) rfl ?_ | refine w_app (l0 := _) rfl ?_ | refine w_st (d0 := _) rfl ?_ | refine w_retv (d := _) rfl ?_
            | refine w_nm (Nat.le_of_ble_eq_true rfl) ?_
            | refine ex_some (o_add _ _) ?_ | refine ex_some (o_sub _ _) ?_ | refine ex_some rfl ?_ | refine ex_int ?_ | refine ex_lst ?_ | refine ex_sbv rfl rfl rfl ?_ | refine ex_st rfl rfl rfl ?_
            | (refine ⟨(Nat.le_of_ble_eq_true rfl : _ ≤ lim), ?_⟩)))
          refine ⟨_, L (i + j), ?_⟩
          (repeat (first
            | refine w_bcons ?_ | refine w_asg ?_ | refine w_par ?_ | refine w_exp ?_ | refine w_ife ?_ | refine w_ret ?_ | refine w_bnil ?_ | refine w_brk ?_ | refine w_cnt ?_
            | refine w_con ?_ | refine w_bin ?_ | refine w_neg ?_ | refine w_not ?_ | refine w_and ?_ | refine w_or ?_ | refine w_ifx ?_ | refine w_cmp ?_ | refine w_chain ?_
            | refine w_anil ?_ | refine w_acons ?_ | refine w_tup ?_ | refine w_lst ?_ | refine w_sub ?_ | refine w_ono ?_ | refine w_oso ?_ | refine w_slice ?_ | refine w_blt ?_ | refine w_isi ?_
            | refine w_call ?_ | refine w_ckw ?_ | refine w_rvl ?_ | refine w_lrg ?_ | refine w_to ?_ | refine w_ft ?_ | refine w_it ?_ | refine w_rng ?_ | refine w_enu ?_ | refine w_comp ?_
            | refine w_tp ?_ | refine w_tnil ?_ | refine w_tcons ?_
            | refine w_var (d := _) rfl rfl ?_ | refine w_varO (d := _) rfl rfl ?_ | refine w_lnv (d := _) rfl rfl ?_ | refine w_sbv (d0 := _) rfl ?_ | refine w_cio (d0 := _) rfl ?_ | refine w_app (l0 := _) rfl ?_ | refine w_st (d0 := _) rfl ?_ | refine w_retv (d := _) rfl ?_
            | refine w_nm (Nat.le_of_ble_eq_true rfl) ?_
            | refine ex_some (o_add _ _) ?_ | refine ex_some (o_sub _ _) ?_ | refine ex_some rfl ?_ | refine ex_int ?_ | refine ex_lst ?_ | refine ex_sbv rfl rfl rfl ?_ | refine ex_st rfl rfl rfl ?_
            | (refine ⟨(Nat.le_of_ble_eq_true rfl : _ ≤ lim), ?_⟩)))
          refine ⟨_, L i, ?_⟩
          (repeat (first
            | refine w_bcons ?_ | refine w_asg ?_ | refine w_par ?_ | refine w_exp ?_ | refine w_ife ?_ | refine w_ret ?_ | refine w_bnil ?_ | refine w_brk ?_ | refine w_cnt ?_
            | refine w_con ?_ | refine w_bin ?_ | refine w_neg ?_ | refine w_not ?_ | refine w_and ?_ | refine w_or ?_ | refine w_ifx ?_ | refine w_cmp ?_ | refine w_chain ?_
            | refine w_anil ?_ | refine w_acons ?_ | refine w_tup ?_ | refine w_lst ?_ | refine w_sub ?_ | refine w_ono ?_ | refine w_oso ?_ | refine w_slice ?_ | refine w_blt ?_ | refine w_isi ?_
            | refine w_call ?_ | refine w_ckw ?_ | refine w_rvl ?_ | refine w_lrg ?_ | refine w_to ?_ | refine w_ft ?_ | refine w_it ?_ | refine w_rng ?_ | refine w_enu ?_ | refine w_comp ?_
            | refine w_tp ?_ | refine w_tnil ?_ | refine w_tcons ?_
            | refine w_var (d := _) rfl rfl ?_ | refine w_varO (d := _) rfl rfl ?_ | refine w_lnv (d := _) rfl rfl ?_ | refine w_sbv (d0 := _) rfl ?_ | refine w_cio (d0 := _) rfl ?_ | refine w_app (l0 := _) rfl ?_ | refine w_st (d0 := _) rfl ?_ | refine w_retv (d := _) rfl ?_
            | refine w_nm (Nat.le_of_ble_eq_true rfl) ?_
            | refine ex_some (o_add _ _) ?_ | refine ex_some (o_sub _ _) ?_ | refine ex_some rfl ?_ | refine ex_int ?_ | refine ex_lst ?_ | refine ex_sbv rfl rfl rfl ?_ | refine ex_st rfl rfl rfl ?_
            | (refine ⟨(Nat.le_of_ble_eq_true rfl : _ ≤ lim), ?_⟩)))
          refine ⟨_, B i, ?_⟩
          (repeat (first
            | refine w_bcons ?_ | refine w_asg ?_ | refine w_par ?_ | refine w_exp ?_ | refine w_ife ?_ | refine w_ret ?_ | refine w_bnil ?_ | refine w_brk ?_ | refine w_cnt ?_
            | refine w_con ?_ | refine w_bin ?_ | refine w_neg ?_ | refine w_not ?_ | refine w_and ?_ | refine w_or ?_ | refine w_ifx ?_ | refine w_cmp ?_ | refine w_chain ?_
            | refine w_anil ?_ | refine w_acons ?_ | refine w_tup ?_ | refine w_lst ?_ | refine w_sub ?_ | refine w_ono ?_ | refine w_oso ?_ | refine w_slice ?_ | refine w_blt ?_ | refine w_isi ?_
            | refine w_call ?_ | refine w_ckw ?_ | refine w_rvl ?_ | refine w_lrg ?_ | refine w_to ?_ | refine w_ft ?_ | refine w_it ?_ | refine w_rng ?_ | refine w_enu ?_ | refine w_comp ?_
            | refine w_tp ?_ | refine w_tnil ?_ | refine w_tcons ?_
            | refine w_var (d := _) rfl rfl ?_ | refine w_varO (d := _) rfl rfl ?_ | refine w_lnv (d := _) rfl rfl ?_ | refine w_sbv (d0 := _) rfl ?_ | refine w_cio (d0 := _) rfl ?_ | refine w_app (l0 := _) rfl ?_ | refine w_st (d0 := _) rfl ?_ | refine w_retv (d := _) rfl ?_
            | refine w_nm (Nat.le_of_ble_eq_true rfl) ?_
            | refine ex_some (o_add _ _) ?_ | refine ex_some (o_sub _ _) ?_ | refine ex_some rfl ?_ | refine ex_int ?_ | refine ex_lst ?_ | refine ex_sbv rfl rfl rfl ?_ | refine ex_st rfl rfl rfl ?_
            | (refine ⟨(Nat.le_of_ble_eq_true rfl : _ ≤ lim), ?_⟩)))
          refine ⟨_, BT i j, ?_⟩
          rw [T_T h hn]
          (repeat (first
            | refine w_bcons ?_ | refine w_asg ?_ | refine w_par ?_ | refine w_exp ?_ | refine w_ife ?_ | refine w_ret ?_ | refine w_bnil ?_ | refine w_brk ?_ | refine w_cnt ?_
            | refine w_con ?_ | refine w_bin ?_ | refine w_neg ?_ | refine w_not ?_ | refine w_and ?_ | refine w_or ?_ | refine w_ifx ?_ | refine w_cmp ?_ | refine w_chain ?_
            | refine w_anil ?_ | refine w_acons ?_ | refine w_tup ?_ | refine w_lst ?_ | refine w_sub ?_ | refine w_ono ?_ | refine w_oso ?_ | refine w_slice ?_ | refine w_blt ?_ | refine w_isi ?_
            | refine w_call ?_ | refine w_ckw ?_ | refine w_rvl ?_ | refine w_lrg ?_ | refine w_to ?_ | refine w_ft ?_ | refine w_it ?_ | refine w_rng ?_ | refine w_enu ?_ | refine w_comp ?_
            | refine w_tp ?_ | refine w_tnil ?_ | refine w_tcons ?_
            | refine w_var (d := _) rfl rfl ?_ | refine w_varO (d := _) rfl rfl ?_ | refine w_lnv (d := _) rfl rfl ?_ | refine w_sbv (d0 := _) rfl ?_ | refine w_cio (d0 := _) rfl ?_ | refine w_app (l0 := _) rfl ?_ | refine w_st (d0 := _) rfl ?_ | refine w_retv (d := _) rfl ?_
            | refine w_nm (Nat.le_of_ble_eq_true rfl) ?_
            | refine ex_some (o_add _ _) ?_ | refine ex_some (o_sub _ _) ?_ | refine ex_some rfl ?_ | refine ex_int ?_ | refine ex_lst ?_ | refine ex_sbv rfl rfl rfl ?_ | refine ex_st rfl rfl rfl ?_
            | (refine ⟨(Nat.le_of_ble_eq_true rfl : _ ≤ lim), ?_⟩)))
          refine ⟨_, R (i + j), ?_⟩
          refine ex_bl ?_
          refine ex_not rfl ?_
          (repeat (first
            | refine w_bcons ?_ | refine w_asg ?_ | refine w_par ?_ | refine w_exp ?_ | refine w_ife ?_ | refine w_ret ?_ | refine w_bnil ?_ | refine w_brk ?_ | refine w_cnt ?_
            | refine w_con ?_ | refine w_bin ?_ | refine w_neg ?_ | refine w_not ?_ | refine w_and ?_ | refine w_or ?_ | refine w_ifx ?_ | refine w_cmp ?_ | refine w_chain ?_
            | refine w_anil ?_ | refine w_acons ?_ | refine w_tup ?_ | refine w_lst ?_ | refine w_sub ?_ | refine w_ono ?_ | refine w_oso ?_ | refine w_slice ?_ | refine w_blt ?_ | refine w_isi ?_
            | refine w_call ?_ | refine w_ckw ?_ | refine w_rvl ?_ | refine w_lrg ?_ | refine w_to ?_ | refine w_ft ?_ | refine w_it ?_ | refine w_rng ?_ | refine w_enu ?_ | refine w_comp ?_
            | refine w_tp ?_ | refine w_tnil ?_ | refine w_tcons ?_
            | refine w_var (d := _) rfl rfl ?_ | refine w_varO (d := _) rfl rfl ?_ | refine w_lnv (d := _) rfl rfl ?_ | refine w_sbv (d0 := _) rfl ?_ | refine w_cio (d0 := _) rfl ?_ | refine w_app (l0 := _) rfl ?_ | refine w_st (d0 := _) rfl ?_ | refine w_retv (d := _) rfl ?_
            | refine w_nm (Nat.le_of_ble_eq_true rfl) ?_
            | refine ex_some (o_add _ _) ?_ | refine ex_some (o_sub _ _) ?_ | refine ex_some rfl ?_ | refine ex_int ?_ | refine ex_lst ?_ | refine ex_sbv rfl rfl rfl ?_ | refine ex_st rfl rfl rfl ?_
            | (refine ⟨(Nat.le_of_ble_eq_true rfl : _ ≤ lim), ?_⟩)))
          refine ⟨_, BT i j, ?_⟩
          rw [T_T h hn]
          (repeat (first
            | refine w_bcons ?_ | refine w_asg ?_ | refine w_par ?_ | refine w_exp ?_ | refine w_ife ?_ | refine w_ret ?_ | refine w_bnil ?_ | refine w_brk ?_ | refine w_cnt ?_
            | refine w_con ?_ | refine w_bin ?_ | refine w_neg ?_ | refine w_not ?_ | refine w_and ?_ | refine w_or ?_ | refine w_ifx ?_ | refine w_cmp ?_ | refine w_chain ?_
            | refine w_anil ?_ | refine w_acons ?_ | refine w_tup ?_ | refine w_lst ?_ | refine w_sub ?_ | refine w_ono ?_ | refine w_oso ?_ | refine w_slice ?_ | refine w_blt ?_ | refine w_isi ?_
            | refine w_call ?_ | refine w_ckw ?_ | refine w_rvl ?_ | refine w_lrg ?_ | refine w_to ?_ | refine w_ft ?_ | refine w_it ?_ | refine w_rng ?_ | refine w_enu ?_ | refine w_comp ?_
            | refine w_tp ?_ | refine w_tnil ?_ | refine w_tcons ?_
            | refine w_var (d := _) rfl rfl ?_ | refine w_varO (d := _) rfl rfl ?_ | refine w_lnv (d := _) rfl rfl ?_ | refine w_sbv (d0 := _) rfl ?_ | refine w_cio (d0 := _) rfl ?_ | refine w_app (l0 := _) rfl ?_ | refine w_st (d0 := _) rfl ?_ | refine w_retv (d := _) rfl ?_
            | refine w_nm (Nat.le_of_ble_eq_true rfl) ?_
            | refine ex_some (o_add _ _) ?_ | refine ex_some (o_sub _ _) ?_ | refine ex_some rfl ?_ | refine ex_int ?_ | refine ex_lst ?_ | refine ex_sbv rfl rfl rfl ?_ | refine ex_st rfl rfl rfl ?_
            | (refine ⟨(Nat.le_of_ble_eq_true rfl : _ ≤ lim), ?_⟩)))
          refine ⟨_, R (i + j), ?_⟩
          refine ex_bl ?_
          refine ex_not rfl ?_
          (repeat (first
            | refine w_bcons ?_ | refine w_asg ?_ | refine w_par ?_ | refine w_exp ?_ | refine w_ife ?_ | refine w_ret ?_ | refine w_bnil ?_ | refine w_brk ?_ | refine w_cnt ?_
            | refine w_con ?_ | refine w_bin ?_ | refine w_neg ?_ | refine w_not ?_ | refine w_and ?_ | refine w_or ?_ | refine w_ifx ?_ | refine w_cmp ?_ | refine w_chain ?_
            | refine w_anil ?_ | refine w_acons ?_ | refine w_tup ?_ | refine w_lst ?_ | refine w_sub ?_ | refine w_ono ?_ | refine w_oso ?_ | refine w_slice ?_ | refine w_blt ?_ | refine w_isi ?_
            | refine w_call ?_ | refine w_ckw ?_ | refine w_rvl ?_ | refine w_lrg ?_ | refine w_to ?_ | refine w_ft ?_ | refine w_it ?_ | refine w_rng ?_ | refine w_enu ?_ | refine w_comp ?_
            | refine w_tp ?_ | refine w_tnil ?_ | refine w_tcons ?_
            | refine w_var (d := _) rfl rfl ?_ | refine w_varO (d := _) rfl rfl ?_ | refine w_lnv (d := _) rfl rfl ?_ | refine w_sbv (d0 := _) rfl ?_ | refine w_cio (d0 := _) rfl ?_ | refine w_app (l0 := _) rfl ?_ | refine w_st (d0 := _) rfl ?_ | refine w_retv (d := _) rfl ?_
            | refine w_nm (Nat.le_of_ble_eq_true rfl) ?_
            | refine ex_some (o_add _ _) ?_ | refine ex_some (o_sub _ _) ?_ | refine ex_some rfl ?_ | refine ex_int ?_ | refine ex_lst ?_ | refine ex_sbv rfl rfl rfl ?_ | refine ex_st rfl rfl rfl ?_
            | (refine ⟨(Nat.le_of_ble_eq_true rfl : _ ≤ lim), ?_⟩)))
          refine ⟨_, BT i (-i), ?_⟩
          rw [T_T h hn, show i + -i = 0 from by omega, T_own h hr]
          (repeat (first
            | refine w_bcons ?_ | refine w_asg ?_ | refine w_par ?_ | refine w_exp ?_ | refine w_ife ?_ | refine w_ret ?_ | refine w_bnil ?_ | refine w_brk ?_ | refine w_cnt ?_
            | refine w_con ?_ | refine w_bin ?_ | refine w_neg ?_ | refine w_not ?_ | refine w_and ?_ | refine w_or ?_ | refine w_ifx ?_ | refine w_cmp ?_ | refine w_chain ?_
            | refine w_anil ?_ | refine w_acons ?_ | refine w_tup ?_ | refine w_lst ?_ | refine w_sub ?_ | refine w_ono ?_ | refine w_oso ?_ | refine w_slice ?_ | refine w_blt ?_ | refine w_isi ?_
            | refine w_call ?_ | refine w_ckw ?_ | refine w_rvl ?_ | refine w_lrg ?_ | refine w_to ?_ | refine w_ft ?_ | refine w_it ?_ | refine w_rng ?_ | refine w_enu ?_ | refine w_comp ?_
            | refine w_tp ?_ | refine w_tnil ?_ | refine w_tcons ?_
            | refine w_var (d := _) rfl rfl ?_ | refine w_varO (d := _) rfl rfl ?_ | refine w_lnv (d := _) rfl rfl ?_ | refine w_sbv (d0 := _) rfl ?_ | refine w_cio (d0 := _) rfl ?_ | refine w_app (l0 := _) rfl ?_ | refine w_st (d0 := _) rfl ?_ | refine w_retv (d := _) rfl ?_
            | refine w_nm (Nat.le_of_ble_eq_true rfl) ?_
            | refine ex_some (o_add _ _) ?_ | refine ex_some (o_sub _ _) ?_ | refine ex_some rfl ?_ | refine ex_int ?_ | refine ex_lst ?_ | refine ex_sbv rfl rfl rfl ?_ | refine ex_st rfl rfl rfl ?_
            | (refine ⟨(Nat.le_of_ble_eq_true rfl : _ ≤ lim), ?_⟩)))
          refine ⟨_, R0, ?_⟩
          refine ex_bl ?_
          refine ex_not rfl ?_
          (repeat (first
            | refine w_bcons ?_ | refine w_asg ?_ | refine w_par ?_ | refine w_exp ?_ | refine w_ife ?_ | refine w_ret ?_ | refine w_bnil ?_ | refine w_brk ?_ | refine w_cnt ?_
            | refine w_con ?_ | refine w_bin ?_ | refine w_neg ?_ | refine w_not ?_ | refine w_and ?_ | refine w_or ?_ | refine w_ifx ?_ | refine w_cmp ?_ | refine w_chain ?_
            | refine w_anil ?_ | refine w_acons ?_ | refine w_tup ?_ | refine w_lst ?_ | refine w_sub ?_ | refine w_ono ?_ | refine w_oso ?_ | refine w_slice ?_ | refine w_blt ?_ | refine w_isi ?_
            | refine w_call ?_ | refine w_ckw ?_ | refine w_rvl ?_ | refine w_lrg ?_ | refine w_to ?_ | refine w_ft ?_ | refine w_it ?_ | refine w_rng ?_ | refine w_enu ?_ | refine w_comp ?_
            | refine w_tp ?_ | refine w_tnil ?_ | refine w_tcons ?_
            | refine w_var (d := _) rfl rfl ?_ | refine w_varO (d := _) rfl rfl ?_ | refine w_lnv (d := _) rfl rfl ?_ | refine w_sbv (d0 := _) rfl ?_ | refine w_cio (d0 := _) rfl ?_ | refine w_app (l0 := _) rfl ?_ | refine w_st (d0 := _) rfl ?_ | refine w_retv (d := _) rfl ?_
            | refine w_nm (Nat.le_of_ble_eq_true rfl) ?_
            | refine ex_some (o_add _ _) ?_ | refine ex_some (o_sub _ _) ?_ | refine ex_some rfl ?_ | refine ex_int ?_ | refine ex_lst ?_ | refine ex_sbv rfl rfl rfl ?_ | refine ex_st rfl rfl rfl ?_
            | (refine ⟨(Nat.le_of_ble_eq_true rfl : _ ≤ lim), ?_⟩)))
          refine ⟨_, B (i + j), ?_⟩
          (repeat (first
            | refine w_bcons ?_ | refine w_asg ?_ | refine w_par ?_ | refine w_exp ?_ | refine w_ife ?_ | refine w_ret ?_ | refine w_bnil ?_ | refine w_brk ?_ | refine w_cnt ?_
            | refine w_con ?_ | refine w_bin ?_ | refine w_neg ?_ | refine w_not ?_ | refine w_and ?_ | refine w_or ?_ | refine w_ifx ?_ | refine w_cmp ?_ | refine w_chain ?_
            | refine w_anil ?_ | refine w_acons ?_ | refine w_tup ?_ | refine w_lst ?_ | refine w_sub ?_ | refine w_ono ?_ | refine w_oso ?_ | refine w_slice ?_ | refine w_blt ?_ | refine w_isi ?_
            | refine w_call ?_ | refine w_ckw ?_ | refine w_rvl ?_ | refine w_lrg ?_ | refine w_to ?_ | refine w_ft ?_ | refine w_it ?_ | refine w_rng ?_ | refine w_enu ?_ | refine w_comp ?_
            | refine w_tp ?_ | refine w_tnil ?_ | refine w_tcons ?_
            | refine w_var (d := _) rfl rfl ?_ | refine w_varO (d := _) rfl rfl ?_ | refine w_lnv (d := _) rfl rfl ?_ | refine w_sbv (d0 := _) rfl ?_ | refine w_cio (d0 := _) rfl ?_ | refine w_app (l0 := _) rfl ?_ | refine w_st (d0 := _) rfl ?_ | refine w_retv (d := _) rfl ?_
            | refine w_nm (Nat.le_of_ble_eq_true rfl) ?_
            | refine ex_some (o_add _ _) ?_ | refine ex_some (o_sub _ _) ?_ | refine ex_some rfl ?_ | refine ex_int ?_ | refine ex_lst ?_ | refine ex_sbv rfl rfl rfl ?_ | refine ex_st rfl rfl rfl ?_
            | (refine ⟨(Nat.le_of_ble_eq_true rfl : _ ≤ lim), ?_⟩)))
          refine ⟨_, R (i + j), ?_⟩
          refine ex_yes rfl ?_
          (repeat (first
            | refine w_bcons ?_ | refine w_asg ?_ | refine w_par ?_ | refine w_exp ?_ | refine w_ife ?_ | refine w_ret ?_ | refine w_bnil ?_ | refine w_brk ?_ | refine w_cnt ?_
            | refine w_con ?_ | refine w_bin ?_ | refine w_neg ?_ | refine w_not ?_ | refine w_and ?_ | refine w_or ?_ | refine w_ifx ?_ | refine w_cmp ?_ | refine w_chain ?_
            | refine w_anil ?_ | refine w_acons ?_ | refine w_tup ?_ | refine w_lst ?_ | refine w_sub ?_ | refine w_ono ?_ | refine w_oso ?_ | refine w_slice ?_ | refine w_blt ?_ | refine w_isi ?_
            | refine w_call ?_ | refine w_ckw ?_ | refine w_rvl ?_ | refine w_lrg ?_ | refine w_to ?_ | refine w_ft ?_ | refine w_it ?_ | refine w_rng ?_ | refine w_enu ?_ | refine w_comp ?_
            | refine w_tp ?_ | refine w_tnil ?_ | refine w_tcons ?_
            | refine w_var (d := _) rfl rfl ?_ | refine w_varO (d := _) rfl rfl ?_ | refine w_lnv (d := _) rfl rfl ?_ | refine w_sbv (d0 := _) rfl ?_ | refine w_cio (d0 := _) rfl ?_ | refine w_app (l0 := _) rfl ?_ | refine w_st (d0 := _) rfl ?_ | refine w_retv (d := _) rfl ?_
            | refine w_nm (Nat.le_of_ble_eq_true rfl) ?_
            | refine ex_some (o_add _ _) ?_ | refine ex_some (o_sub _ _) ?_ | refine ex_some rfl ?_ | refine ex_int ?_ | refine ex_lst ?_ | refine ex_sbv rfl rfl rfl ?_ | refine ex_st rfl rfl rfl ?_
            | (refine ⟨(Nat.le_of_ble_eq_true rfl : _ ≤ lim), ?_⟩)))
          refine ex_some hrep ?_
          (repeat (first
            | refine w_bcons ?_ | refine w_asg ?_ | refine w_par ?_ | refine w_exp ?_ | refine w_ife ?_ | refine w_ret ?_ | refine w_bnil ?_ | refine w_brk ?_ | refine w_cnt ?_
            | refine w_con ?_ | refine w_bin ?_ | refine w_neg ?_ | refine w_not ?_ | refine w_and ?_ | refine w_or ?_ | refine w_ifx ?_ | refine w_cmp ?_ | refine w_chain ?_
            | refine w_anil ?_ | refine w_acons ?_ | refine w_tup ?_ | refine w_lst ?_ | refine w_sub ?_ | refine w_ono ?_ | refine w_oso ?_ | refine w_slice ?_ | refine w_blt ?_ | refine w_isi ?_
            | refine w_call ?_ | refine w_ckw ?_ | refine w_rvl ?_ | refine w_lrg ?_ | refine w_to ?_ | refine w_ft ?_ | refine w_it ?_ | refine w_rng ?_ | refine w_enu ?_ | refine w_comp ?_
            | refine w_tp ?_ | refine w_tnil ?_ | refine w_tcons ?_
            | refine w_var (d := _) rfl rfl ?_ | refine w_varO (d := _) rfl rfl ?_ | refine w_lnv (d := _) rfl rfl ?_ | refine w_sbv (d0 := _) rfl ?_ | refine w_cio (d0 := _) rfl ?_ | refine w_app (l0 := _) rfl ?_ | refine w_st (d0 := _) rfl ?_ | refine w_retv (d := _) rfl ?_
            | refine w_nm (Nat.le_of_ble_eq_true rfl) ?_
            | refine ex_some (o_add _ _) ?_ | refine ex_some (o_sub _ _) ?_ | refine ex_some rfl ?_ | refine ex_int ?_ | refine ex_lst ?_ | refine ex_sbv rfl rfl rfl ?_ | refine ex_st rfl rfl rfl ?_
            | (refine ⟨(Nat.le_of_ble_eq_true rfl : _ ≤ lim), ?_⟩)))
          refine ⟨_, rfl, ?_, l2, rfl, g2⟩
          show D.bl (decide (s = s)) = _
          rw [decide_eq_true rfl]
end R49

namespace R49
open PySem PySem.Spec Rr
theorem all_true (n : Nat) : biD .all (D.fz (.lst true (List.replicate n (.bl true)))) = some (.bl true) := by
  have hb : ∀ n : Nat, bools (D.fzA (List.replicate n (D.bl true))) = some (List.replicate n true) := by
    intro n
    induction n with
    | zero => rfl
    | succ n ih =>
      rw [List.replicate_succ]
      show (bools (D.fzA (List.replicate n (D.bl true)))).map (true :: ·) = _
      rw [ih]
      rfl
  show (bools (D.fzA (List.replicate n (D.bl true)))).map (fun bs => D.bl (bs.all _root_.id)) = _
  rw [hb]
  simp
theorem All.per {C : Fn} (A : All C) {p c : Int} {n g : Nat} {row : List Int} (h : PC p c) (hn : 0 < row.length) (hn2 : row.length ≤ 16) (pr : Per p c row g) : C 12 [.int (g : Int), .int (g : Int)] = some (.bl true, []) := by
  obtain ⟨gl, gd⟩ := pr.le h hn
  have hw2 : row.length * ord p c ≤ 16 * 12 := Nat.mul_le_mul hn2 h.o12
  have : ((row.length * ord p c : Nat) : Int) ≤ 192 := by omega
  exact A.isn _ (sm_of (by omega) (by omega))
def PeOk (C : Fn) : Prop := ∀ {l : List D} {p c : Int} {n g : Nat} {row : List Int}, Bg l → PC p c → Row p n row → 0 < row.length → row.length ≤ 16 → Per p c row g → ∃ l', C 26 [.lst true l, .int p, .int c, iT row, .int g] = some (.bl true, [.lst true l']) ∧ Bg l'
theorem pe_ok (k : Nat) : PeOk (callN fs (k + 4)) := fun {l p c n g row} hb h hr hn hn2 pr => by
  rw [callN_eq (F := m__law_are_periods_right) rfl]
  have A := all_ok k
  have p1 := h.p1
  have p13 := h.p13
  generalize callN fs (k + 3) = C at A
  have P0 := A.bp h hr hn hn2 pr
  have G0 := A.per (n := n) h hn hn2 pr
  have := w_runio (C := C) (F := m__law_are_periods_right) (ds := [.lst true l, .int p, .int c, iT row, .int g]) (Q := fun d x' => d = .bl true ∧ ∃ l', x' = .lst true l' ∧ Bg l') rfl (by decide) rfl ?_
  · obtain ⟨d, x', e, rfl, l', rfl, q⟩ := this
    exact ⟨l', e, q⟩
  · show wB C _ [some (.lst true l), some (.int p), some (.int c), some (iT row), some (.int g), none, none, none, none] _
    (repeat (first
      | refine w_bcons ?_ | refine w_asg ?_ | refine w_par ?_ | refine w_exp ?_ | refine w_ife ?_ | refine w_ret ?_ | refine w_bnil ?_ | refine w_brk ?_ | refine w_cnt ?_
      | refine w_con ?_ | refine w_bin ?_ | refine w_neg ?_ | refine w_not ?_ | refine w_and ?_ | refine w_or ?_ | refine w_ifx ?_ | refine w_cmp ?_ | refine w_chain ?_
      | refine w_anil ?_ | refine w_acons ?_ | refine w_tup ?_ | refine w_lst ?_ | refine w_sub ?_ | refine w_ono ?_ | refine w_oso ?_ | refine w_slice ?_ | refine w_blt ?_ | refine w_isi ?_
      | refine w_call ?_ | refine w_ckw ?_ | refine w_rvl ?_ | refine w_lrg ?_ | refine w_to ?_ | refine w_ft ?_ | refine w_it ?_ | refine w_rng ?_ | refine w_enu ?_ | refine w_comp ?_
      | refine w_tp ?_ | refine w_tnil ?_ | refine w_tcons ?_
      | refine w_var (d := _) rfl rfl ?_ | refine w_varO (d := _) rfl rfl ?_ | refine w_lnv (d := _) rfl rfl ?_ | refine w_sbv (d0 := _) rfl ?_ | refine w_cio (d0 := _) rfl ?_ | refine w_app (l0 := _) rfl ?_ | refine w_st (d0 := _) rfl ?_ | refine w_retv (d := _) rfl ?_
      | refine w_nm (Nat.le_of_ble_eq_true rfl) ?_
      | refine ex_some (o_add _ _) ?_ | refine ex_some (o_sub _ _) ?_ | refine ex_some rfl ?_ | refine ex_int ?_ | refine ex_lst ?_ | refine ex_sbv rfl rfl rfl ?_ | refine ex_st rfl rfl rfl ?_
      | (refine ⟨(Nat.le_of_ble_eq_true rfl : _ ≤ lim), ?_⟩)))
    obtain ⟨r, l1, e1, q1, q2, g1⟩ := A.draw l 400 hb (by decide) (by decide)
    refine ⟨_, _, _, rfl, e1, ?_⟩
    (repeat (first
      | refine w_bcons ?_ | refine w_asg ?_ | refine w_par ?_ | refine w_exp ?_ | refine w_ife ?_ | refine w_ret ?_ | refine w_bnil ?_ | refine w_brk ?_ | refine w_cnt ?_
      | refine w_con ?_ | refine w_bin ?_ | refine w_neg ?_ | refine w_not ?_ | refine w_and ?_ | refine w_or ?_ | refine w_ifx ?_ | refine w_cmp ?_ | refine w_chain ?_
      | refine w_anil ?_ | refine w_acons ?_ | refine w_tup ?_ | refine w_lst ?_ | refine w_sub ?_ | refine w_ono ?_ | refine w_oso ?_ | refine w_slice ?_ | refine w_blt ?_ | refine w_isi ?_
      | refine w_call ?_ | refine w_ckw ?_ | refine w_rvl ?_ | refine w_lrg ?_ | refine w_to ?_ | refine w_ft ?_ | refine w_it ?_ | refine w_rng ?_ | refine w_enu ?_ | refine w_comp ?_
      | refine w_tp ?_ | refine w_tnil ?_ | refine w_tcons ?_
      | refine w_var (d := _) rfl rfl ?_ | refine w_varO (d := _) rfl rfl ?_ | refine w_lnv (d := _) rfl rfl ?_ | refine w_sbv (d0 := _) rfl ?_ | refine w_cio (d0 := _) rfl ?_ | refine w_app (l0 := _) rfl ?_ | refine w_st (d0 := _) rfl ?_ | refine w_retv (d := _) rfl ?_
      | refine w_nm (Nat.le_of_ble_eq_true rfl) ?_
      | refine ex_some (o_add _ _) ?_ | refine ex_some (o_sub _ _) ?_ | refine ex_some rfl ?_ | refine ex_int ?_ | refine ex_lst ?_ | refine ex_sbv rfl rfl rfl ?_ | refine ex_st rfl rfl rfl ?_
      | (refine ⟨(Nat.le_of_ble_eq_true rfl : _ ≤ lim), ?_⟩)))
    obtain ⟨x, l2, e2, q3, q4, g2⟩ := A.draw l1 (p - 1) g1 (by omega) (by omega)
    refine ⟨_, _, _, rfl, e2, ?_⟩
    (repeat (first
      | refine w_bcons ?_ | refine w_asg ?_ | refine w_par ?_ | refine w_exp ?_ | refine w_ife ?_ | refine w_ret ?_ | refine w_bnil ?_ | refine w_brk ?_ | refine w_cnt ?_
      | refine w_con ?_ | refine w_bin ?_ | refine w_neg ?_ | refine w_not ?_ | refine w_and ?_ | refine w_or ?_ | refine w_ifx ?_ | refine w_cmp ?_ | refine w_chain ?_
      | refine w_anil ?_ | refine w_acons ?_ | refine w_tup ?_ | refine w_lst ?_ | refine w_sub ?_ | refine w_ono ?_ | refine w_oso ?_ | refine w_slice ?_ | refine w_blt ?_ | refine w_isi ?_
      | refine w_call ?_ | refine w_ckw ?_ | refine w_rvl ?_ | refine w_lrg ?_ | refine w_to ?_ | refine w_ft ?_ | refine w_it ?_ | refine w_rng ?_ | refine w_enu ?_ | refine w_comp ?_
      | refine w_tp ?_ | refine w_tnil ?_ | refine w_tcons ?_
      | refine w_var (d := _) rfl rfl ?_ | refine w_varO (d := _) rfl rfl ?_ | refine w_lnv (d := _) rfl rfl ?_ | refine w_sbv (d0 := _) rfl ?_ | refine w_cio (d0 := _) rfl ?_ | refine w_app (l0 := _) rfl ?_ | refine w_st (d0 := _) rfl ?_ | refine w_retv (d := _) rfl ?_
      | refine w_nm (Nat.le_of_ble_eq_true rfl) ?_
      | refine ex_some (o_add _ _) ?_ | refine ex_some (o_sub _ _) ?_ | refine ex_some rfl ?_ | refine ex_int ?_ | refine ex_lst ?_ | refine ex_sbv rfl rfl rfl ?_ | refine ex_st rfl rfl rfl ?_
      | (refine ⟨(Nat.le_of_ble_eq_true rfl : _ ≤ lim), ?_⟩)))
    refine ⟨_, P0, ?_⟩
    (repeat (first
      | refine w_bcons ?_ | refine w_asg ?_ | refine w_par ?_ | refine w_exp ?_ | refine w_ife ?_ | refine w_ret ?_ | refine w_bnil ?_ | refine w_brk ?_ | refine w_cnt ?_
      | refine w_con ?_ | refine w_bin ?_ | refine w_neg ?_ | refine w_not ?_ | refine w_and ?_ | refine w_or ?_ | refine w_ifx ?_ | refine w_cmp ?_ | refine w_chain ?_
      | refine w_anil ?_ | refine w_acons ?_ | refine w_tup ?_ | refine w_lst ?_ | refine w_sub ?_ | refine w_ono ?_ | refine w_oso ?_ | refine w_slice ?_ | refine w_blt ?_ | refine w_isi ?_
      | refine w_call ?_ | refine w_ckw ?_ | refine w_rvl ?_ | refine w_lrg ?_ | refine w_to ?_ | refine w_ft ?_ | refine w_it ?_ | refine w_rng ?_ | refine w_enu ?_ | refine w_comp ?_
      | refine w_tp ?_ | refine w_tnil ?_ | refine w_tcons ?_
      | refine w_var (d := _) rfl rfl ?_ | refine w_varO (d := _) rfl rfl ?_ | refine w_lnv (d := _) rfl rfl ?_ | refine w_sbv (d0 := _) rfl ?_ | refine w_cio (d0 := _) rfl ?_ | refine w_app (l0 := _) rfl ?_ | refine w_st (d0 := _) rfl ?_ | refine w_retv (d := _) rfl ?_
      | refine w_nm (Nat.le_of_ble_eq_true rfl) ?_
      | refine ex_some (o_add _ _) ?_ | refine ex_some (o_sub _ _) ?_ | refine ex_some rfl ?_ | refine ex_int ?_ | refine ex_lst ?_ | refine ex_sbv rfl rfl rfl ?_ | refine ex_st rfl rfl rfl ?_
      | (refine ⟨(Nat.le_of_ble_eq_true rfl : _ ≤ lim), ?_⟩)))
    refine ⟨_, P0, ?_⟩
    (repeat (first
      | refine w_bcons ?_ | refine w_asg ?_ | refine w_par ?_ | refine w_exp ?_ | refine w_ife ?_ | refine w_ret ?_ | refine w_bnil ?_ | refine w_brk ?_ | refine w_cnt ?_
      | refine w_con ?_ | refine w_bin ?_ | refine w_neg ?_ | refine w_not ?_ | refine w_and ?_ | refine w_or ?_ | refine w_ifx ?_ | refine w_cmp ?_ | refine w_chain ?_
      | refine w_anil ?_ | refine w_acons ?_ | refine w_tup ?_ | refine w_lst ?_ | refine w_sub ?_ | refine w_ono ?_ | refine w_oso ?_ | refine w_slice ?_ | refine w_blt ?_ | refine w_isi ?_
      | refine w_call ?_ | refine w_ckw ?_ | refine w_rvl ?_ | refine w_lrg ?_ | refine w_to ?_ | refine w_ft ?_ | refine w_it ?_ | refine w_rng ?_ | refine w_enu ?_ | refine w_comp ?_
      | refine w_tp ?_ | refine w_tnil ?_ | refine w_tcons ?_
      | refine w_var (d := _) rfl rfl ?_ | refine w_varO (d := _) rfl rfl ?_ | refine w_lnv (d := _) rfl rfl ?_ | refine w_sbv (d0 := _) rfl ?_ | refine w_cio (d0 := _) rfl ?_ | refine w_app (l0 := _) rfl ?_ | refine w_st (d0 := _) rfl ?_ | refine w_retv (d := _) rfl ?_
      | refine w_nm (Nat.le_of_ble_eq_true rfl) ?_
      | refine ex_some (o_add _ _) ?_ | refine ex_some (o_sub _ _) ?_ | refine ex_some rfl ?_ | refine ex_int ?_ | refine ex_lst ?_ | refine ex_sbv rfl rfl rfl ?_ | refine ex_st rfl rfl rfl ?_
      | (refine ⟨(Nat.le_of_ble_eq_true rfl : _ ≤ lim), ?_⟩)))
    refine ⟨_, A.lt h hr hn hn2 (r - 200), ?_⟩
    (repeat (first
      | refine w_bcons ?_ | refine w_asg ?_ | refine w_par ?_ | refine w_exp ?_ | refine w_ife ?_ | refine w_ret ?_ | refine w_bnil ?_ | refine w_brk ?_ | refine w_cnt ?_
      | refine w_con ?_ | refine w_bin ?_ | refine w_neg ?_ | refine w_not ?_ | refine w_and ?_ | refine w_or ?_ | refine w_ifx ?_ | refine w_cmp ?_ | refine w_chain ?_
      | refine w_anil ?_ | refine w_acons ?_ | refine w_tup ?_ | refine w_lst ?_ | refine w_sub ?_ | refine w_ono ?_ | refine w_oso ?_ | refine w_slice ?_ | refine w_blt ?_ | refine w_isi ?_
      | refine w_call ?_ | refine w_ckw ?_ | refine w_rvl ?_ | refine w_lrg ?_ | refine w_to ?_ | refine w_ft ?_ | refine w_it ?_ | refine w_rng ?_ | refine w_enu ?_ | refine w_comp ?_
      | refine w_tp ?_ | refine w_tnil ?_ | refine w_tcons ?_
      | refine w_var (d := _) rfl rfl ?_ | refine w_varO (d := _) rfl rfl ?_ | refine w_lnv (d := _) rfl rfl ?_ | refine w_sbv (d0 := _) rfl ?_ | refine w_cio (d0 := _) rfl ?_ | refine w_app (l0 := _) rfl ?_ | refine w_st (d0 := _) rfl ?_ | refine w_retv (d := _) rfl ?_
      | refine w_nm (Nat.le_of_ble_eq_true rfl) ?_
      | refine ex_some (o_add _ _) ?_ | refine ex_some (o_sub _ _) ?_ | refine ex_some rfl ?_ | refine ex_int ?_ | refine ex_lst ?_ | refine ex_sbv rfl rfl rfl ?_ | refine ex_st rfl rfl rfl ?_
      | (refine ⟨(Nat.le_of_ble_eq_true rfl : _ ≤ lim), ?_⟩)))
    refine ⟨_, A.bp h (T_row h hr (r - 200)) (by rw [T_len]; exact hn) (by rw [T_len]; exact hn2) (pr.turned h hr hn (r - 200)), ?_⟩
    (repeat (first
      | refine w_bcons ?_ | refine w_asg ?_ | refine w_par ?_ | refine w_exp ?_ | refine w_ife ?_ | refine w_ret ?_ | refine w_bnil ?_ | refine w_brk ?_ | refine w_cnt ?_
      | refine w_con ?_ | refine w_bin ?_ | refine w_neg ?_ | refine w_not ?_ | refine w_and ?_ | refine w_or ?_ | refine w_ifx ?_ | refine w_cmp ?_ | refine w_chain ?_
      | refine w_anil ?_ | refine w_acons ?_ | refine w_tup ?_ | refine w_lst ?_ | refine w_sub ?_ | refine w_ono ?_ | refine w_oso ?_ | refine w_slice ?_ | refine w_blt ?_ | refine w_isi ?_
      | refine w_call ?_ | refine w_ckw ?_ | refine w_rvl ?_ | refine w_lrg ?_ | refine w_to ?_ | refine w_ft ?_ | refine w_it ?_ | refine w_rng ?_ | refine w_enu ?_ | refine w_comp ?_
      | refine w_tp ?_ | refine w_tnil ?_ | refine w_tcons ?_
      | refine w_var (d := _) rfl rfl ?_ | refine w_varO (d := _) rfl rfl ?_ | refine w_lnv (d := _) rfl rfl ?_ | refine w_sbv (d0 := _) rfl ?_ | refine w_cio (d0 := _) rfl ?_ | refine w_app (l0 := _) rfl ?_ | refine w_st (d0 := _) rfl ?_ | refine w_retv (d := _) rfl ?_
      | refine w_nm (Nat.le_of_ble_eq_true rfl) ?_
      | refine ex_some (o_add _ _) ?_ | refine ex_some (o_sub _ _) ?_ | refine ex_some rfl ?_ | refine ex_int ?_ | refine ex_lst ?_ | refine ex_sbv rfl rfl rfl ?_ | refine ex_st rfl rfl rfl ?_
      | (refine ⟨(Nat.le_of_ble_eq_true rfl : _ ≤ lim), ?_⟩)))
    refine ⟨by rw [List.length_map]; show _ ≤ 1000000; omega, wC_map (iD fun y => y * (1 + x) % p) (fun d hd => ?_) ?_⟩
    · obtain ⟨y, hy, rfl⟩ := List.mem_map.mp hd
      have hy2 := hr.lo y hy
      refine w_nm (Nat.le_of_ble_eq_true rfl) ?_
      show wE C _ [some (.lst true l2), some (.int p), some (.int c), some (iT row), some (.int g), some (.int (r - 200)), some (.int (1 + x)), some (.lst true [.int g, .int g, .int g]), some (.int y)] _
      (repeat (first
        | refine w_bcons ?_ | refine w_asg ?_ | refine w_par ?_ | refine w_exp ?_ | refine w_ife ?_ | refine w_ret ?_ | refine w_bnil ?_ | refine w_brk ?_ | refine w_cnt ?_
        | refine w_con ?_ | refine w_bin ?_ | refine w_neg ?_ | refine w_not ?_ | refine w_and ?_ | refine w_or ?_ | refine w_ifx ?_ | refine w_cmp ?_ | refine w_chain ?_
        | refine w_anil ?_ | refine w_acons ?_ | refine w_tup ?_ | refine w_lst ?_ | refine w_sub ?_ | refine w_ono ?_ | refine w_oso ?_ | refine w_slice ?_ | refine w_blt ?_ | refine w_isi ?_
        | refine w_call ?_ | refine w_ckw ?_ | refine w_rvl ?_ | refine w_lrg ?_ | refine w_to ?_ | refine w_ft ?_ | refine w_it ?_ | refine w_rng ?_ | refine w_enu ?_ | refine w_comp ?_
        | refine w_tp ?_ | refine w_tnil ?_ | refine w_tcons ?_
        | refine w_var (d := _) rfl rfl ?_ | refine w_varO (d := _) rfl rfl ?_ | refine w_lnv (d := _) rfl rfl ?_ | refine w_sbv (d0 := _) rfl ?_ | refine w_cio (d0 := _) rfl ?_ | refine w_app (l0 := _) rfl ?_ | refine w_st (d0 := _) rfl ?_ | refine w_retv (d := _) rfl ?_
        | refine w_nm (Nat.le_of_ble_eq_true rfl) ?_
        | refine ex_some (o_add _ _) ?_ | refine ex_some (o_sub _ _) ?_ | refine ex_some rfl ?_ | refine ex_int ?_ | refine ex_lst ?_ | refine ex_sbv rfl rfl rfl ?_ | refine ex_st rfl rfl rfl ?_
        | (refine ⟨(Nat.le_of_ble_eq_true rfl : _ ≤ lim), ?_⟩)))
      refine ex_some (o_mulS (by omega) (by omega) (by omega) (by omega)) ?_
      (repeat (first
        | refine w_bcons ?_ | refine w_asg ?_ | refine w_par ?_ | refine w_exp ?_ | refine w_ife ?_ | refine w_ret ?_ | refine w_bnil ?_ | refine w_brk ?_ | refine w_cnt ?_
        | refine w_con ?_ | refine w_bin ?_ | refine w_neg ?_ | refine w_not ?_ | refine w_and ?_ | refine w_or ?_ | refine w_ifx ?_ | refine w_cmp ?_ | refine w_chain ?_
        | refine w_anil ?_ | refine w_acons ?_ | refine w_tup ?_ | refine w_lst ?_ | refine w_sub ?_ | refine w_ono ?_ | refine w_oso ?_ | refine w_slice ?_ | refine w_blt ?_ | refine w_isi ?_
        | refine w_call ?_ | refine w_ckw ?_ | refine w_rvl ?_ | refine w_lrg ?_ | refine w_to ?_ | refine w_ft ?_ | refine w_it ?_ | refine w_rng ?_ | refine w_enu ?_ | refine w_comp ?_
        | refine w_tp ?_ | refine w_tnil ?_ | refine w_tcons ?_
        | refine w_var (d := _) rfl rfl ?_ | refine w_varO (d := _) rfl rfl ?_ | refine w_lnv (d := _) rfl rfl ?_ | refine w_sbv (d0 := _) rfl ?_ | refine w_cio (d0 := _) rfl ?_ | refine w_app (l0 := _) rfl ?_ | refine w_st (d0 := _) rfl ?_ | refine w_retv (d := _) rfl ?_
        | refine w_nm (Nat.le_of_ble_eq_true rfl) ?_
        | refine ex_some (o_add _ _) ?_ | refine ex_some (o_sub _ _) ?_ | refine ex_some rfl ?_ | refine ex_int ?_ | refine ex_lst ?_ | refine ex_sbv rfl rfl rfl ?_ | refine ex_st rfl rfl rfl ?_
        | (refine ⟨(Nat.le_of_ble_eq_true rfl : _ ≤ lim), ?_⟩)))
      refine ex_some (o_mod (by omega)) ?_
      exact ⟨rfl, rfl⟩
    · rw [iD_map]
      refine ex_some (z := iT (sc p (1 + x) row)) (by show some (D.tup (D.fzA (iA _))) = _; rw [fzA_i]; rfl) ?_
      (repeat (first
        | refine w_bcons ?_ | refine w_asg ?_ | refine w_par ?_ | refine w_exp ?_ | refine w_ife ?_ | refine w_ret ?_ | refine w_bnil ?_ | refine w_brk ?_ | refine w_cnt ?_
        | refine w_con ?_ | refine w_bin ?_ | refine w_neg ?_ | refine w_not ?_ | refine w_and ?_ | refine w_or ?_ | refine w_ifx ?_ | refine w_cmp ?_ | refine w_chain ?_
        | refine w_anil ?_ | refine w_acons ?_ | refine w_tup ?_ | refine w_lst ?_ | refine w_sub ?_ | refine w_ono ?_ | refine w_oso ?_ | refine w_slice ?_ | refine w_blt ?_ | refine w_isi ?_
        | refine w_call ?_ | refine w_ckw ?_ | refine w_rvl ?_ | refine w_lrg ?_ | refine w_to ?_ | refine w_ft ?_ | refine w_it ?_ | refine w_rng ?_ | refine w_enu ?_ | refine w_comp ?_
        | refine w_tp ?_ | refine w_tnil ?_ | refine w_tcons ?_
        | refine w_var (d := _) rfl rfl ?_ | refine w_varO (d := _) rfl rfl ?_ | refine w_lnv (d := _) rfl rfl ?_ | refine w_sbv (d0 := _) rfl ?_ | refine w_cio (d0 := _) rfl ?_ | refine w_app (l0 := _) rfl ?_ | refine w_st (d0 := _) rfl ?_ | refine w_retv (d := _) rfl ?_
        | refine w_nm (Nat.le_of_ble_eq_true rfl) ?_
        | refine ex_some (o_add _ _) ?_ | refine ex_some (o_sub _ _) ?_ | refine ex_some rfl ?_ | refine ex_int ?_ | refine ex_lst ?_ | refine ex_sbv rfl rfl rfl ?_ | refine ex_st rfl rfl rfl ?_
        | (refine ⟨(Nat.le_of_ble_eq_true rfl : _ ≤ lim), ?_⟩)))
      refine ⟨_, A.bp h (sc_row h hr (1 + x)) (by rw [sc_len]; exact hn) (by rw [sc_len]; exact hn2) (pr.scaled h hr hn (by omega) (by omega)), ?_⟩
      (repeat (first
        | refine w_bcons ?_ | refine w_asg ?_ | refine w_par ?_ | refine w_exp ?_ | refine w_ife ?_ | refine w_ret ?_ | refine w_bnil ?_ | refine w_brk ?_ | refine w_cnt ?_
        | refine w_con ?_ | refine w_bin ?_ | refine w_neg ?_ | refine w_not ?_ | refine w_and ?_ | refine w_or ?_ | refine w_ifx ?_ | refine w_cmp ?_ | refine w_chain ?_
        | refine w_anil ?_ | refine w_acons ?_ | refine w_tup ?_ | refine w_lst ?_ | refine w_sub ?_ | refine w_ono ?_ | refine w_oso ?_ | refine w_slice ?_ | refine w_blt ?_ | refine w_isi ?_
        | refine w_call ?_ | refine w_ckw ?_ | refine w_rvl ?_ | refine w_lrg ?_ | refine w_to ?_ | refine w_ft ?_ | refine w_it ?_ | refine w_rng ?_ | refine w_enu ?_ | refine w_comp ?_
        | refine w_tp ?_ | refine w_tnil ?_ | refine w_tcons ?_
        | refine w_var (d := _) rfl rfl ?_ | refine w_varO (d := _) rfl rfl ?_ | refine w_lnv (d := _) rfl rfl ?_ | refine w_sbv (d0 := _) rfl ?_ | refine w_cio (d0 := _) rfl ?_ | refine w_app (l0 := _) rfl ?_ | refine w_st (d0 := _) rfl ?_ | refine w_retv (d := _) rfl ?_
        | refine w_nm (Nat.le_of_ble_eq_true rfl) ?_
        | refine ex_some (o_add _ _) ?_ | refine ex_some (o_sub _ _) ?_ | refine ex_some rfl ?_ | refine ex_int ?_ | refine ex_lst ?_ | refine ex_sbv rfl rfl rfl ?_ | refine ex_st rfl rfl rfl ?_
        | (refine ⟨(Nat.le_of_ble_eq_true rfl : _ ≤ lim), ?_⟩)))
      refine ⟨_, P0, ?_⟩
      (repeat (first
        | refine w_bcons ?_ | refine w_asg ?_ | refine w_par ?_ | refine w_exp ?_ | refine w_ife ?_ | refine w_ret ?_ | refine w_bnil ?_ | refine w_brk ?_ | refine w_cnt ?_
        | refine w_con ?_ | refine w_bin ?_ | refine w_neg ?_ | refine w_not ?_ | refine w_and ?_ | refine w_or ?_ | refine w_ifx ?_ | refine w_cmp ?_ | refine w_chain ?_
        | refine w_anil ?_ | refine w_acons ?_ | refine w_tup ?_ | refine w_lst ?_ | refine w_sub ?_ | refine w_ono ?_ | refine w_oso ?_ | refine w_slice ?_ | refine w_blt ?_ | refine w_isi ?_
        | refine w_call ?_ | refine w_ckw ?_ | refine w_rvl ?_ | refine w_lrg ?_ | refine w_to ?_ | refine w_ft ?_ | refine w_it ?_ | refine w_rng ?_ | refine w_enu ?_ | refine w_comp ?_
        | refine w_tp ?_ | refine w_tnil ?_ | refine w_tcons ?_
        | refine w_var (d := _) rfl rfl ?_ | refine w_varO (d := _) rfl rfl ?_ | refine w_lnv (d := _) rfl rfl ?_ | refine w_sbv (d0 := _) rfl ?_ | refine w_cio (d0 := _) rfl ?_ | refine w_app (l0 := _) rfl ?_ | refine w_st (d0 := _) rfl ?_ | refine w_retv (d := _) rfl ?_
        | refine w_nm (Nat.le_of_ble_eq_true rfl) ?_
        | refine ex_some (o_add _ _) ?_ | refine ex_some (o_sub _ _) ?_ | refine ex_some rfl ?_ | refine ex_int ?_ | refine ex_lst ?_ | refine ex_sbv rfl rfl rfl ?_ | refine ex_st rfl rfl rfl ?_
        | (refine ⟨(Nat.le_of_ble_eq_true rfl : _ ≤ lim), ?_⟩)))
      refine wC_map (fun _ => .bl true) (fun d hd => ?_) ?_
      · have hd : d = .int g := by
          have hd : d ∈ [D.int g, .int g, .int g, .int g, .int g] := hd
          simp only [List.mem_cons, List.not_mem_nil, or_false] at hd
          rcases hd with rfl | rfl | rfl | rfl | rfl <;> rfl
        subst hd
        refine w_nm (Nat.le_of_ble_eq_true rfl) ?_
        show wE C _ [some (.lst true l2), some (.int p), some (.int c), some (iT row), some (.int g), some (.int (r - 200)), some (.int (1 + x)), some (.lst false [.int g, .int g, .int g, .int g, .int g]), some (.int g)] _
        (repeat (first
          | refine w_bcons ?_ | refine w_asg ?_ | refine w_par ?_ | refine w_exp ?_ | refine w_ife ?_ | refine w_ret ?_ | refine w_bnil ?_ | refine w_brk ?_ | refine w_cnt ?_
          | refine w_con ?_ | refine w_bin ?_ | refine w_neg ?_ | refine w_not ?_ | refine w_and ?_ | refine w_or ?_ | refine w_ifx ?_ | refine w_cmp ?_ | refine w_chain ?_
          | refine w_anil ?_ | refine w_acons ?_ | refine w_tup ?_ | refine w_lst ?_ | refine w_sub ?_ | refine w_ono ?_ | refine w_oso ?_ | refine w_slice ?_ | refine w_blt ?_ | refine w_isi ?_
          | refine w_call ?_ | refine w_ckw ?_ | refine w_rvl ?_ | refine w_lrg ?_ | refine w_to ?_ | refine w_ft ?_ | refine w_it ?_ | refine w_rng ?_ | refine w_enu ?_ | refine w_comp ?_
          | refine w_tp ?_ | refine w_tnil ?_ | refine w_tcons ?_
          | refine w_var (d := _) rfl rfl ?_ | refine w_varO (d := _) rfl rfl ?_ | refine w_lnv (d := _) rfl rfl ?_ | refine w_sbv (d0 := _) rfl ?_ | refine w_cio (d0 := _) rfl ?_ | refine w_app (l0 := _) rfl ?_ | refine w_st (d0 := _) rfl ?_ | refine w_retv (d := _) rfl ?_
          | refine w_nm (Nat.le_of_ble_eq_true rfl) ?_
          | refine ex_some (o_add _ _) ?_ | refine ex_some (o_sub _ _) ?_ | refine ex_some rfl ?_ | refine ex_int ?_ | refine ex_lst ?_ | refine ex_sbv rfl rfl rfl ?_ | refine ex_st rfl rfl rfl ?_
          | (refine ⟨(Nat.le_of_ble_eq_true rfl : _ ≤ lim), ?_⟩)))
        exact ⟨_, G0, rfl, rfl⟩
      · refine ex_some (all_true 5) ?_
        exact ⟨_, rfl, rfl, l2, rfl, g2⟩
end R49

namespace R49
open PySem PySem.Spec Rr
theorem rot_eq {p : Int} {n : Nat} {row : List Int} (h : PC p 1) (hr : Row p n row) (hn : 0 < row.length) (b : Int) : T p 1 row b = row.drop ((row.length : Int) - b % (row.length : Int)).toNat ++ row.take ((row.length : Int) - b % (row.length : Int)).toNat := by
  have key : ∀ xs : List Int, (∀ x ∈ xs, 0 ≤ x ∧ x < p) → xs.map (fun x => x * 1 % p) = xs := fun xs hx => by
    rw [List.map_congr_left (g := fun x => x) fun x m => by rw [Int.mul_one]; exact Int.emod_eq_of_lt (hx x m).1 (hx x m).2]
    exact List.map_id _
  rw [← BT_eq h hr hn]
  unfold BT
  simp only [ex_one h]
  rw [key row hr.lo, key _ fun x m => hr.lo x (List.mem_of_mem_drop m)]
def PlOk (C : Fn) : Prop := ∀ {l : List D} {p : Int} {n : Nat} {row : List Int}, Bg l → PC p 1 → Row p n row → 0 < row.length → row.length ≤ 16 → ∃ l', C 27 [.lst true l, .int p, iT row] = some (.bl true, [.lst true l']) ∧ Bg l'
theorem pl_ok (k : Nat) : PlOk (callN fs (k + 4)) := fun {l p n row} hb h hr hn hn2 => by
  rw [callN_eq (F := m__law_is_plain_right) rfl]
  have A := all_ok k
  obtain ⟨g, pr⟩ := per_ex h hr hn
  obtain ⟨gl, gd⟩ := pr.le h hn
  have g0 := pr.pos
  rw [ord_one h, Nat.mul_one] at gl gd
  generalize callN fs (k + 3) = C at A
  have hz : (0 : Int) < row.length := by omega
  have R : ∀ a, C 13 [iT (T p 1 row a), iT (T p 1 row a)] = some (.bl true, []) := fun a => A.row h (T_row h hr a) (by rw [T_len]; exact hn2)
  have G0 := A.per (n := n) h hn hn2 pr
  have := w_runio (C := C) (F := m__law_is_plain_right) (ds := [.lst true l, .int p, iT row]) (Q := fun d x' => d = .bl true ∧ ∃ l', x' = .lst true l' ∧ Bg l') rfl (by decide) rfl ?_
  · obtain ⟨d, x', e, rfl, l', rfl, q⟩ := this
    exact ⟨l', e, q⟩
  · show wB C _ [some (.lst true l), some (.int p), some (iT row), none, none, none, none, none] _
    (repeat (first
      | refine w_bcons ?_ | refine w_asg ?_ | refine w_par ?_ | refine w_exp ?_ | refine w_ife ?_ | refine w_ret ?_ | refine w_bnil ?_ | refine w_brk ?_ | refine w_cnt ?_
      | refine w_con ?_ | refine w_bin ?_ | refine w_neg ?_ | refine w_not ?_ | refine w_and ?_ | refine w_or ?_ | refine w_ifx ?_ | refine w_cmp ?_ | refine w_chain ?_
      | refine w_anil ?_ | refine w_acons ?_ | refine w_tup ?_ | refine w_lst ?_ | refine w_sub ?_ | refine w_ono ?_ | refine w_oso ?_ | refine w_slice ?_ | refine w_blt ?_ | refine w_isi ?_
      | refine w_call ?_ | refine w_ckw ?_ | refine w_rvl ?_ | refine w_lrg ?_ | refine w_to ?_ | refine w_ft ?_ | refine w_it ?_ | refine w_rng ?_ | refine w_enu ?_ | refine w_comp ?_
      | refine w_tp ?_ | refine w_tnil ?_ | refine w_tcons ?_
      | refine w_var (d := _) rfl rfl ?_ | refine w_varO (d := _) rfl rfl ?_ | refine w_lnv (d := _) rfl rfl ?_ | refine w_sbv (d0 := _) rfl ?_ | refine w_cio (d0 := _) rfl ?_ | refine w_app (l0 := _) rfl ?_ | refine w_st (d0 := _) rfl ?_ | refine w_retv (d := _) rfl ?_
      | refine w_nm (Nat.le_of_ble_eq_true rfl) ?_
      | refine ex_some (o_add _ _) ?_ | refine ex_some (o_sub _ _) ?_ | refine ex_some rfl ?_ | refine ex_int ?_ | refine ex_lst ?_ | refine ex_sbv rfl rfl rfl ?_ | refine ex_st rfl rfl rfl ?_
      | (refine ⟨(Nat.le_of_ble_eq_true rfl : _ ≤ lim), ?_⟩)))
    simp only [List.length_map]
    refine ⟨_, A.lp h hr hn hn2 pr, ?_⟩
    (repeat (first
      | refine w_bcons ?_ | refine w_asg ?_ | refine w_par ?_ | refine w_exp ?_ | refine w_ife ?_ | refine w_ret ?_ | refine w_bnil ?_ | refine w_brk ?_ | refine w_cnt ?_
      | refine w_con ?_ | refine w_bin ?_ | refine w_neg ?_ | refine w_not ?_ | refine w_and ?_ | refine w_or ?_ | refine w_ifx ?_ | refine w_cmp ?_ | refine w_chain ?_
      | refine w_anil ?_ | refine w_acons ?_ | refine w_tup ?_ | refine w_lst ?_ | refine w_sub ?_ | refine w_ono ?_ | refine w_oso ?_ | refine w_slice ?_ | refine w_blt ?_ | refine w_isi ?_
      | refine w_call ?_ | refine w_ckw ?_ | refine w_rvl ?_ | refine w_lrg ?_ | refine w_to ?_ | refine w_ft ?_ | refine w_it ?_ | refine w_rng ?_ | refine w_enu ?_ | refine w_comp ?_
      | refine w_tp ?_ | refine w_tnil ?_ | refine w_tcons ?_
      | refine w_var (d := _) rfl rfl ?_ | refine w_varO (d := _) rfl rfl ?_ | refine w_lnv (d := _) rfl rfl ?_ | refine w_sbv (d0 := _) rfl ?_ | refine w_cio (d0 := _) rfl ?_ | refine w_app (l0 := _) rfl ?_ | refine w_st (d0 := _) rfl ?_ | refine w_retv (d := _) rfl ?_
      | refine w_nm (Nat.le_of_ble_eq_true rfl) ?_
      | refine ex_some (o_add _ _) ?_ | refine ex_some (o_sub _ _) ?_ | refine ex_some rfl ?_ | refine ex_int ?_ | refine ex_lst ?_ | refine ex_sbv rfl rfl rfl ?_ | refine ex_st rfl rfl rfl ?_
      | (refine ⟨(Nat.le_of_ble_eq_true rfl : _ ≤ lim), ?_⟩)))
    refine w_cut (fun ρ => ∃ l, ρ = [some (.lst true l), some (.int p), some (iT row), some (.int row.length), some (.int g), none, none, none] ∧ Bg l) ?_ fun ρ ⟨l1, eρ, g1⟩ => ?_
    · refine w_for ?_
      (repeat (first
        | refine w_bcons ?_ | refine w_asg ?_ | refine w_par ?_ | refine w_exp ?_ | refine w_ife ?_ | refine w_ret ?_ | refine w_bnil ?_ | refine w_brk ?_ | refine w_cnt ?_
        | refine w_con ?_ | refine w_bin ?_ | refine w_neg ?_ | refine w_not ?_ | refine w_and ?_ | refine w_or ?_ | refine w_ifx ?_ | refine w_cmp ?_ | refine w_chain ?_
        | refine w_anil ?_ | refine w_acons ?_ | refine w_tup ?_ | refine w_lst ?_ | refine w_sub ?_ | refine w_ono ?_ | refine w_oso ?_ | refine w_slice ?_ | refine w_blt ?_ | refine w_isi ?_
        | refine w_call ?_ | refine w_ckw ?_ | refine w_rvl ?_ | refine w_lrg ?_ | refine w_to ?_ | refine w_ft ?_ | refine w_it ?_ | refine w_rng ?_ | refine w_enu ?_ | refine w_comp ?_
        | refine w_tp ?_ | refine w_tnil ?_ | refine w_tcons ?_
        | refine w_var (d := _) rfl rfl ?_ | refine w_varO (d := _) rfl rfl ?_ | refine w_lnv (d := _) rfl rfl ?_ | refine w_sbv (d0 := _) rfl ?_ | refine w_cio (d0 := _) rfl ?_ | refine w_app (l0 := _) rfl ?_ | refine w_st (d0 := _) rfl ?_ | refine w_retv (d := _) rfl ?_
        | refine w_nm (Nat.le_of_ble_eq_true rfl) ?_
        | refine ex_some (o_add _ _) ?_ | refine ex_some (o_sub _ _) ?_ | refine ex_some rfl ?_ | refine ex_int ?_ | refine ex_lst ?_ | refine ex_sbv rfl rfl rfl ?_ | refine ex_st rfl rfl rfl ?_
        | (refine ⟨(Nat.le_of_ble_eq_true rfl : _ ≤ lim), ?_⟩)))
      obtain ⟨r, l1, e1, _, _, g1⟩ := A.draw l 99 hb (by decide) (by decide)
      refine ⟨_, _, _, rfl, e1, ?_⟩
      (repeat (first
        | refine w_bcons ?_ | refine w_asg ?_ | refine w_par ?_ | refine w_exp ?_ | refine w_ife ?_ | refine w_ret ?_ | refine w_bnil ?_ | refine w_brk ?_ | refine w_cnt ?_
        | refine w_con ?_ | refine w_bin ?_ | refine w_neg ?_ | refine w_not ?_ | refine w_and ?_ | refine w_or ?_ | refine w_ifx ?_ | refine w_cmp ?_ | refine w_chain ?_
        | refine w_anil ?_ | refine w_acons ?_ | refine w_tup ?_ | refine w_lst ?_ | refine w_sub ?_ | refine w_ono ?_ | refine w_oso ?_ | refine w_slice ?_ | refine w_blt ?_ | refine w_isi ?_
        | refine w_call ?_ | refine w_ckw ?_ | refine w_rvl ?_ | refine w_lrg ?_ | refine w_to ?_ | refine w_ft ?_ | refine w_it ?_ | refine w_rng ?_ | refine w_enu ?_ | refine w_comp ?_
        | refine w_tp ?_ | refine w_tnil ?_ | refine w_tcons ?_
        | refine w_var (d := _) rfl rfl ?_ | refine w_varO (d := _) rfl rfl ?_ | refine w_lnv (d := _) rfl rfl ?_ | refine w_sbv (d0 := _) rfl ?_ | refine w_cio (d0 := _) rfl ?_ | refine w_app (l0 := _) rfl ?_ | refine w_st (d0 := _) rfl ?_ | refine w_retv (d := _) rfl ?_
        | refine w_nm (Nat.le_of_ble_eq_true rfl) ?_
        | refine ex_some (o_add _ _) ?_ | refine ex_some (o_sub _ _) ?_ | refine ex_some rfl ?_ | refine ex_int ?_ | refine ex_lst ?_ | refine ex_sbv rfl rfl rfl ?_ | refine ex_st rfl rfl rfl ?_
        | (refine ⟨(Nat.le_of_ble_eq_true rfl : _ ≤ lim), ?_⟩)))
      obtain ⟨i, l2, e2, _, _, g2⟩ := A.int l1 g1
      refine ⟨_, _, _, rfl, e2, ?_⟩
      (repeat (first
        | refine w_bcons ?_ | refine w_asg ?_ | refine w_par ?_ | refine w_exp ?_ | refine w_ife ?_ | refine w_ret ?_ | refine w_bnil ?_ | refine w_brk ?_ | refine w_cnt ?_
        | refine w_con ?_ | refine w_bin ?_ | refine w_neg ?_ | refine w_not ?_ | refine w_and ?_ | refine w_or ?_ | refine w_ifx ?_ | refine w_cmp ?_ | refine w_chain ?_
        | refine w_anil ?_ | refine w_acons ?_ | refine w_tup ?_ | refine w_lst ?_ | refine w_sub ?_ | refine w_ono ?_ | refine w_oso ?_ | refine w_slice ?_ | refine w_blt ?_ | refine w_isi ?_
        | refine w_call ?_ | refine w_ckw ?_ | refine w_rvl ?_ | refine w_lrg ?_ | refine w_to ?_ | refine w_ft ?_ | refine w_it ?_ | refine w_rng ?_ | refine w_enu ?_ | refine w_comp ?_
        | refine w_tp ?_ | refine w_tnil ?_ | refine w_tcons ?_
        | refine w_var (d := _) rfl rfl ?_ | refine w_varO (d := _) rfl rfl ?_ | refine w_lnv (d := _) rfl rfl ?_ | refine w_sbv (d0 := _) rfl ?_ | refine w_cio (d0 := _) rfl ?_ | refine w_app (l0 := _) rfl ?_ | refine w_st (d0 := _) rfl ?_ | refine w_retv (d := _) rfl ?_
        | refine w_nm (Nat.le_of_ble_eq_true rfl) ?_
        | refine ex_some (o_add _ _) ?_ | refine ex_some (o_sub _ _) ?_ | refine ex_some rfl ?_ | refine ex_int ?_ | refine ex_lst ?_ | refine ex_sbv rfl rfl rfl ?_ | refine ex_st rfl rfl rfl ?_
        | (refine ⟨(Nat.le_of_ble_eq_true rfl : _ ≤ lim), ?_⟩)))
      refine ⟨fun k ρ => ∃ y5 y6 y7, ρ = [some (.lst true l2), some (.int p), some (iT row), some (.int row.length), some (.int g), y5, y6, y7], ⟨none, none, none, rfl⟩, fun k d ρ hdk ⟨y5, y6, y7, eρ⟩ => ?_, fun ρ ⟨y5, y6, y7, eρ⟩ => ?_⟩
      · subst eρ
        have hd : ∃ b, d = .int b := by
          have hm := List.mem_of_getElem? hdk
          have hm : d ∈ [D.int 1, .int (-1), .int (r - 49), .int i] := hm
          simp only [List.mem_cons, List.not_mem_nil, or_false] at hm
          rcases hm with rfl | rfl | rfl | rfl <;> exact ⟨_, rfl⟩
        obtain ⟨b, rfl⟩ := hd
        refine w_nm (Nat.le_of_ble_eq_true rfl) ?_
        show wB C _ [some (.lst true l2), some (.int p), some (iT row), some (.int row.length), some (.int g), some (.int b), none, none] _
        have s0 := Int.emod_nonneg b (Int.ne_of_gt hz)
        have s1 := Int.emod_lt_of_pos b hz
        have hrot := rot_eq h hr hn b
        have k0 : 0 ≤ (row.length : Int) - b % (row.length : Int) := by omega
        have k1 : (row.length : Int) - b % (row.length : Int) ≤ (iA row).length := by rw [List.length_map]; omega
        (repeat (first
          | refine w_bcons ?_ | refine w_asg ?_ | refine w_par ?_ | refine w_exp ?_ | refine w_ife ?_ | refine w_ret ?_ | refine w_bnil ?_ | refine w_brk ?_ | refine w_cnt ?_
          | refine w_con ?_ | refine w_bin ?_ | refine w_neg ?_ | refine w_not ?_ | refine w_and ?_ | refine w_or ?_ | refine w_ifx ?_ | refine w_cmp ?_ | refine w_chain ?_
          | refine w_anil ?_ | refine w_acons ?_ | refine w_tup ?_ | refine w_lst ?_ | refine w_sub ?_ | refine w_ono ?_ | refine w_oso ?_ | refine w_slice ?_ | refine w_blt ?_ | refine w_isi ?_
          | refine w_call ?_ | refine w_ckw ?_ | refine w_rvl ?_ | refine w_lrg ?_ | refine w_to ?_ | refine w_ft ?_ | refine w_it ?_ | refine w_rng ?_ | refine w_enu ?_ | refine w_comp ?_
          | refine w_tp ?_ | refine w_tnil ?_ | refine w_tcons ?_
          | refine w_var (d := _) rfl rfl ?_ | refine w_varO (d := _) rfl rfl ?_ | refine w_lnv (d := _) rfl rfl ?_ | refine w_sbv (d0 := _) rfl ?_ | refine w_cio (d0 := _) rfl ?_ | refine w_app (l0 := _) rfl ?_ | refine w_st (d0 := _) rfl ?_ | refine w_retv (d := _) rfl ?_
          | refine w_nm (Nat.le_of_ble_eq_true rfl) ?_
          | refine ex_some (o_add _ _) ?_ | refine ex_some (o_sub _ _) ?_ | refine ex_some rfl ?_ | refine ex_int ?_ | refine ex_lst ?_ | refine ex_sbv rfl rfl rfl ?_ | refine ex_st rfl rfl rfl ?_
          | (refine ⟨(Nat.le_of_ble_eq_true rfl : _ ≤ lim), ?_⟩)))
        refine ex_some (o_mod hz) ?_
        (repeat (first
          | refine w_bcons ?_ | refine w_asg ?_ | refine w_par ?_ | refine w_exp ?_ | refine w_ife ?_ | refine w_ret ?_ | refine w_bnil ?_ | refine w_brk ?_ | refine w_cnt ?_
          | refine w_con ?_ | refine w_bin ?_ | refine w_neg ?_ | refine w_not ?_ | refine w_and ?_ | refine w_or ?_ | refine w_ifx ?_ | refine w_cmp ?_ | refine w_chain ?_
          | refine w_anil ?_ | refine w_acons ?_ | refine w_tup ?_ | refine w_lst ?_ | refine w_sub ?_ | refine w_ono ?_ | refine w_oso ?_ | refine w_slice ?_ | refine w_blt ?_ | refine w_isi ?_
          | refine w_call ?_ | refine w_ckw ?_ | refine w_rvl ?_ | refine w_lrg ?_ | refine w_to ?_ | refine w_ft ?_ | refine w_it ?_ | refine w_rng ?_ | refine w_enu ?_ | refine w_comp ?_
          | refine w_tp ?_ | refine w_tnil ?_ | refine w_tcons ?_
          | refine w_var (d := _) rfl rfl ?_ | refine w_varO (d := _) rfl rfl ?_ | refine w_lnv (d := _) rfl rfl ?_ | refine w_sbv (d0 := _) rfl ?_ | refine w_cio (d0 := _) rfl ?_ | refine w_app (l0 := _) rfl ?_ | refine w_st (d0 := _) rfl ?_ | refine w_retv (d := _) rfl ?_
          | refine w_nm (Nat.le_of_ble_eq_true rfl) ?_
          | refine ex_some (o_add _ _) ?_ | refine ex_some (o_sub _ _) ?_ | refine ex_some rfl ?_ | refine ex_int ?_ | refine ex_lst ?_ | refine ex_sbv rfl rfl rfl ?_ | refine ex_st rfl rfl rfl ?_
          | (refine ⟨(Nat.le_of_ble_eq_true rfl : _ ≤ lim), ?_⟩)))
        refine ex_some (z := iT (T p 1 row b)) ?_ ?_
        · rw [hrot]
          show addD (D.tup (cutD (iA row) (some ((row.length : Int) - b % (row.length : Int))) none)) (D.tup (cutD (iA row) none (some ((row.length : Int) - b % (row.length : Int))))) = _
          rw [cut_from k0 k1, cut_to k0 k1, ← List.map_drop, ← List.map_take]
          exact tadd _ _ (by rw [List.length_drop, List.length_take]; omega)
        · (repeat (first
            | refine w_bcons ?_ | refine w_asg ?_ | refine w_par ?_ | refine w_exp ?_ | refine w_ife ?_ | refine w_ret ?_ | refine w_bnil ?_ | refine w_brk ?_ | refine w_cnt ?_
            | refine w_con ?_ | refine w_bin ?_ | refine w_neg ?_ | refine w_not ?_ | refine w_and ?_ | refine w_or ?_ | refine w_ifx ?_ | refine w_cmp ?_ | refine w_chain ?_
            | refine w_anil ?_ | refine w_acons ?_ | refine w_tup ?_ | refine w_lst ?_ | refine w_sub ?_ | refine w_ono ?_ | refine w_oso ?_ | refine w_slice ?_ | refine w_blt ?_ | refine w_isi ?_
            | refine w_call ?_ | refine w_ckw ?_ | refine w_rvl ?_ | refine w_lrg ?_ | refine w_to ?_ | refine w_ft ?_ | refine w_it ?_ | refine w_rng ?_ | refine w_enu ?_ | refine w_comp ?_
            | refine w_tp ?_ | refine w_tnil ?_ | refine w_tcons ?_
            | refine w_var (d := _) rfl rfl ?_ | refine w_varO (d := _) rfl rfl ?_ | refine w_lnv (d := _) rfl rfl ?_ | refine w_sbv (d0 := _) rfl ?_ | refine w_cio (d0 := _) rfl ?_ | refine w_app (l0 := _) rfl ?_ | refine w_st (d0 := _) rfl ?_ | refine w_retv (d := _) rfl ?_
            | refine w_nm (Nat.le_of_ble_eq_true rfl) ?_
            | refine ex_some (o_add _ _) ?_ | refine ex_some (o_sub _ _) ?_ | refine ex_some rfl ?_ | refine ex_int ?_ | refine ex_lst ?_ | refine ex_sbv rfl rfl rfl ?_ | refine ex_st rfl rfl rfl ?_
            | (refine ⟨(Nat.le_of_ble_eq_true rfl : _ ≤ lim), ?_⟩)))
          refine ⟨_, A.tr h hr hn hn2 b, ?_⟩
          (repeat (first
            | refine w_bcons ?_ | refine w_asg ?_ | refine w_par ?_ | refine w_exp ?_ | refine w_ife ?_ | refine w_ret ?_ | refine w_bnil ?_ | refine w_brk ?_ | refine w_cnt ?_
            | refine w_con ?_ | refine w_bin ?_ | refine w_neg ?_ | refine w_not ?_ | refine w_and ?_ | refine w_or ?_ | refine w_ifx ?_ | refine w_cmp ?_ | refine w_chain ?_
            | refine w_anil ?_ | refine w_acons ?_ | refine w_tup ?_ | refine w_lst ?_ | refine w_sub ?_ | refine w_ono ?_ | refine w_oso ?_ | refine w_slice ?_ | refine w_blt ?_ | refine w_isi ?_
            | refine w_call ?_ | refine w_ckw ?_ | refine w_rvl ?_ | refine w_lrg ?_ | refine w_to ?_ | refine w_ft ?_ | refine w_it ?_ | refine w_rng ?_ | refine w_enu ?_ | refine w_comp ?_
            | refine w_tp ?_ | refine w_tnil ?_ | refine w_tcons ?_
            | refine w_var (d := _) rfl rfl ?_ | refine w_varO (d := _) rfl rfl ?_ | refine w_lnv (d := _) rfl rfl ?_ | refine w_sbv (d0 := _) rfl ?_ | refine w_cio (d0 := _) rfl ?_ | refine w_app (l0 := _) rfl ?_ | refine w_st (d0 := _) rfl ?_ | refine w_retv (d := _) rfl ?_
            | refine w_nm (Nat.le_of_ble_eq_true rfl) ?_
            | refine ex_some (o_add _ _) ?_ | refine ex_some (o_sub _ _) ?_ | refine ex_some rfl ?_ | refine ex_int ?_ | refine ex_lst ?_ | refine ex_sbv rfl rfl rfl ?_ | refine ex_st rfl rfl rfl ?_
            | (refine ⟨(Nat.le_of_ble_eq_true rfl : _ ≤ lim), ?_⟩)))
          refine ⟨_, R b, ?_⟩
          refine ex_bl ?_
          refine ex_not rfl ?_
          (repeat (first
            | refine w_bcons ?_ | refine w_asg ?_ | refine w_par ?_ | refine w_exp ?_ | refine w_ife ?_ | refine w_ret ?_ | refine w_bnil ?_ | refine w_brk ?_ | refine w_cnt ?_
            | refine w_con ?_ | refine w_bin ?_ | refine w_neg ?_ | refine w_not ?_ | refine w_and ?_ | refine w_or ?_ | refine w_ifx ?_ | refine w_cmp ?_ | refine w_chain ?_
            | refine w_anil ?_ | refine w_acons ?_ | refine w_tup ?_ | refine w_lst ?_ | refine w_sub ?_ | refine w_ono ?_ | refine w_oso ?_ | refine w_slice ?_ | refine w_blt ?_ | refine w_isi ?_
            | refine w_call ?_ | refine w_ckw ?_ | refine w_rvl ?_ | refine w_lrg ?_ | refine w_to ?_ | refine w_ft ?_ | refine w_it ?_ | refine w_rng ?_ | refine w_enu ?_ | refine w_comp ?_
            | refine w_tp ?_ | refine w_tnil ?_ | refine w_tcons ?_
            | refine w_var (d := _) rfl rfl ?_ | refine w_varO (d := _) rfl rfl ?_ | refine w_lnv (d := _) rfl rfl ?_ | refine w_sbv (d0 := _) rfl ?_ | refine w_cio (d0 := _) rfl ?_ | refine w_app (l0 := _) rfl ?_ | refine w_st (d0 := _) rfl ?_ | refine w_retv (d := _) rfl ?_
            | refine w_nm (Nat.le_of_ble_eq_true rfl) ?_
            | refine ex_some (o_add _ _) ?_ | refine ex_some (o_sub _ _) ?_ | refine ex_some rfl ?_ | refine ex_int ?_ | refine ex_lst ?_ | refine ex_sbv rfl rfl rfl ?_ | refine ex_st rfl rfl rfl ?_
            | (refine ⟨(Nat.le_of_ble_eq_true rfl : _ ≤ lim), ?_⟩)))
          refine ⟨_, A.bt h hr hn hn2 b, ?_⟩
          (repeat (first
            | refine w_bcons ?_ | refine w_asg ?_ | refine w_par ?_ | refine w_exp ?_ | refine w_ife ?_ | refine w_ret ?_ | refine w_bnil ?_ | refine w_brk ?_ | refine w_cnt ?_
            | refine w_con ?_ | refine w_bin ?_ | refine w_neg ?_ | refine w_not ?_ | refine w_and ?_ | refine w_or ?_ | refine w_ifx ?_ | refine w_cmp ?_ | refine w_chain ?_
            | refine w_anil ?_ | refine w_acons ?_ | refine w_tup ?_ | refine w_lst ?_ | refine w_sub ?_ | refine w_ono ?_ | refine w_oso ?_ | refine w_slice ?_ | refine w_blt ?_ | refine w_isi ?_
            | refine w_call ?_ | refine w_ckw ?_ | refine w_rvl ?_ | refine w_lrg ?_ | refine w_to ?_ | refine w_ft ?_ | refine w_it ?_ | refine w_rng ?_ | refine w_enu ?_ | refine w_comp ?_
            | refine w_tp ?_ | refine w_tnil ?_ | refine w_tcons ?_
            | refine w_var (d := _) rfl rfl ?_ | refine w_varO (d := _) rfl rfl ?_ | refine w_lnv (d := _) rfl rfl ?_ | refine w_sbv (d0 := _) rfl ?_ | refine w_cio (d0 := _) rfl ?_ | refine w_app (l0 := _) rfl ?_ | refine w_st (d0 := _) rfl ?_ | refine w_retv (d := _) rfl ?_
            | refine w_nm (Nat.le_of_ble_eq_true rfl) ?_
            | refine ex_some (o_add _ _) ?_ | refine ex_some (o_sub _ _) ?_ | refine ex_some rfl ?_ | refine ex_int ?_ | refine ex_lst ?_ | refine ex_sbv rfl rfl rfl ?_ | refine ex_st rfl rfl rfl ?_
            | (refine ⟨(Nat.le_of_ble_eq_true rfl : _ ≤ lim), ?_⟩)))
          refine ⟨_, R b, ?_⟩
          refine ex_bl ?_
          refine ex_not rfl ?_
          (repeat (first
            | refine w_bcons ?_ | refine w_asg ?_ | refine w_par ?_ | refine w_exp ?_ | refine w_ife ?_ | refine w_ret ?_ | refine w_bnil ?_ | refine w_brk ?_ | refine w_cnt ?_
            | refine w_con ?_ | refine w_bin ?_ | refine w_neg ?_ | refine w_not ?_ | refine w_and ?_ | refine w_or ?_ | refine w_ifx ?_ | refine w_cmp ?_ | refine w_chain ?_
            | refine w_anil ?_ | refine w_acons ?_ | refine w_tup ?_ | refine w_lst ?_ | refine w_sub ?_ | refine w_ono ?_ | refine w_oso ?_ | refine w_slice ?_ | refine w_blt ?_ | refine w_isi ?_
            | refine w_call ?_ | refine w_ckw ?_ | refine w_rvl ?_ | refine w_lrg ?_ | refine w_to ?_ | refine w_ft ?_ | refine w_it ?_ | refine w_rng ?_ | refine w_enu ?_ | refine w_comp ?_
            | refine w_tp ?_ | refine w_tnil ?_ | refine w_tcons ?_
            | refine w_var (d := _) rfl rfl ?_ | refine w_varO (d := _) rfl rfl ?_ | refine w_lnv (d := _) rfl rfl ?_ | refine w_sbv (d0 := _) rfl ?_ | refine w_cio (d0 := _) rfl ?_ | refine w_app (l0 := _) rfl ?_ | refine w_st (d0 := _) rfl ?_ | refine w_retv (d := _) rfl ?_
            | refine w_nm (Nat.le_of_ble_eq_true rfl) ?_
            | refine ex_some (o_add _ _) ?_ | refine ex_some (o_sub _ _) ?_ | refine ex_some rfl ?_ | refine ex_int ?_ | refine ex_lst ?_ | refine ex_sbv rfl rfl rfl ?_ | refine ex_st rfl rfl rfl ?_
            | (refine ⟨(Nat.le_of_ble_eq_true rfl : _ ≤ lim), ?_⟩)))
          exact ⟨_, _, _, rfl⟩
      · subst eρ
        exact ⟨rfl, l2, rfl, g2⟩
    · subst eρ
      (repeat (first
        | refine w_bcons ?_ | refine w_asg ?_ | refine w_par ?_ | refine w_exp ?_ | refine w_ife ?_ | refine w_ret ?_ | refine w_bnil ?_ | refine w_brk ?_ | refine w_cnt ?_
        | refine w_con ?_ | refine w_bin ?_ | refine w_neg ?_ | refine w_not ?_ | refine w_and ?_ | refine w_or ?_ | refine w_ifx ?_ | refine w_cmp ?_ | refine w_chain ?_
        | refine w_anil ?_ | refine w_acons ?_ | refine w_tup ?_ | refine w_lst ?_ | refine w_sub ?_ | refine w_ono ?_ | refine w_oso ?_ | refine w_slice ?_ | refine w_blt ?_ | refine w_isi ?_
        | refine w_call ?_ | refine w_ckw ?_ | refine w_rvl ?_ | refine w_lrg ?_ | refine w_to ?_ | refine w_ft ?_ | refine w_it ?_ | refine w_rng ?_ | refine w_enu ?_ | refine w_comp ?_
        | refine w_tp ?_ | refine w_tnil ?_ | refine w_tcons ?_
        | refine w_var (d := _) rfl rfl ?_ | refine w_varO (d := _) rfl rfl ?_ | refine w_lnv (d := _) rfl rfl ?_ | refine w_sbv (d0 := _) rfl ?_ | refine w_cio (d0 := _) rfl ?_ | refine w_app (l0 := _) rfl ?_ | refine w_st (d0 := _) rfl ?_ | refine w_retv (d := _) rfl ?_
        | refine w_nm (Nat.le_of_ble_eq_true rfl) ?_
        | refine ex_some (o_add _ _) ?_ | refine ex_some (o_sub _ _) ?_ | refine ex_some rfl ?_ | refine ex_int ?_ | refine ex_lst ?_ | refine ex_sbv rfl rfl rfl ?_ | refine ex_st rfl rfl rfl ?_
        | (refine ⟨(Nat.le_of_ble_eq_true rfl : _ ≤ lim), ?_⟩)))
      refine ex_some (o_mod (by omega)) ?_
      (repeat (first
        | refine w_bcons ?_ | refine w_asg ?_ | refine w_par ?_ | refine w_exp ?_ | refine w_ife ?_ | refine w_ret ?_ | refine w_bnil ?_ | refine w_brk ?_ | refine w_cnt ?_
        | refine w_con ?_ | refine w_bin ?_ | refine w_neg ?_ | refine w_not ?_ | refine w_and ?_ | refine w_or ?_ | refine w_ifx ?_ | refine w_cmp ?_ | refine w_chain ?_
        | refine w_anil ?_ | refine w_acons ?_ | refine w_tup ?_ | refine w_lst ?_ | refine w_sub ?_ | refine w_ono ?_ | refine w_oso ?_ | refine w_slice ?_ | refine w_blt ?_ | refine w_isi ?_
        | refine w_call ?_ | refine w_ckw ?_ | refine w_rvl ?_ | refine w_lrg ?_ | refine w_to ?_ | refine w_ft ?_ | refine w_it ?_ | refine w_rng ?_ | refine w_enu ?_ | refine w_comp ?_
        | refine w_tp ?_ | refine w_tnil ?_ | refine w_tcons ?_
        | refine w_var (d := _) rfl rfl ?_ | refine w_varO (d := _) rfl rfl ?_ | refine w_lnv (d := _) rfl rfl ?_ | refine w_sbv (d0 := _) rfl ?_ | refine w_cio (d0 := _) rfl ?_ | refine w_app (l0 := _) rfl ?_ | refine w_st (d0 := _) rfl ?_ | refine w_retv (d := _) rfl ?_
        | refine w_nm (Nat.le_of_ble_eq_true rfl) ?_
        | refine ex_some (o_add _ _) ?_ | refine ex_some (o_sub _ _) ?_ | refine ex_some rfl ?_ | refine ex_int ?_ | refine ex_lst ?_ | refine ex_sbv rfl rfl rfl ?_ | refine ex_st rfl rfl rfl ?_
        | (refine ⟨(Nat.le_of_ble_eq_true rfl : _ ≤ lim), ?_⟩)))
      refine ex_dec (fun hc => ?_) (fun _ => ?_)
      · rw [gd] at hc
        exact absurd hc (by decide)
      · (repeat (first
          | refine w_bcons ?_ | refine w_asg ?_ | refine w_par ?_ | refine w_exp ?_ | refine w_ife ?_ | refine w_ret ?_ | refine w_bnil ?_ | refine w_brk ?_ | refine w_cnt ?_
          | refine w_con ?_ | refine w_bin ?_ | refine w_neg ?_ | refine w_not ?_ | refine w_and ?_ | refine w_or ?_ | refine w_ifx ?_ | refine w_cmp ?_ | refine w_chain ?_
          | refine w_anil ?_ | refine w_acons ?_ | refine w_tup ?_ | refine w_lst ?_ | refine w_sub ?_ | refine w_ono ?_ | refine w_oso ?_ | refine w_slice ?_ | refine w_blt ?_ | refine w_isi ?_
          | refine w_call ?_ | refine w_ckw ?_ | refine w_rvl ?_ | refine w_lrg ?_ | refine w_to ?_ | refine w_ft ?_ | refine w_it ?_ | refine w_rng ?_ | refine w_enu ?_ | refine w_comp ?_
          | refine w_tp ?_ | refine w_tnil ?_ | refine w_tcons ?_
          | refine w_var (d := _) rfl rfl ?_ | refine w_varO (d := _) rfl rfl ?_ | refine w_lnv (d := _) rfl rfl ?_ | refine w_sbv (d0 := _) rfl ?_ | refine w_cio (d0 := _) rfl ?_ | refine w_app (l0 := _) rfl ?_ | refine w_st (d0 := _) rfl ?_ | refine w_retv (d := _) rfl ?_
          | refine w_nm (Nat.le_of_ble_eq_true rfl) ?_
          | refine ex_some (o_add _ _) ?_ | refine ex_some (o_sub _ _) ?_ | refine ex_some rfl ?_ | refine ex_int ?_ | refine ex_lst ?_ | refine ex_sbv rfl rfl rfl ?_ | refine ex_st rfl rfl rfl ?_
          | (refine ⟨(Nat.le_of_ble_eq_true rfl : _ ≤ lim), ?_⟩)))
        refine ⟨_, A.rp h hr hn hn2 pr, ?_⟩
        (repeat (first
          | refine w_bcons ?_ | refine w_asg ?_ | refine w_par ?_ | refine w_exp ?_ | refine w_ife ?_ | refine w_ret ?_ | refine w_bnil ?_ | refine w_brk ?_ | refine w_cnt ?_
          | refine w_con ?_ | refine w_bin ?_ | refine w_neg ?_ | refine w_not ?_ | refine w_and ?_ | refine w_or ?_ | refine w_ifx ?_ | refine w_cmp ?_ | refine w_chain ?_
          | refine w_anil ?_ | refine w_acons ?_ | refine w_tup ?_ | refine w_lst ?_ | refine w_sub ?_ | refine w_ono ?_ | refine w_oso ?_ | refine w_slice ?_ | refine w_blt ?_ | refine w_isi ?_
          | refine w_call ?_ | refine w_ckw ?_ | refine w_rvl ?_ | refine w_lrg ?_ | refine w_to ?_ | refine w_ft ?_ | refine w_it ?_ | refine w_rng ?_ | refine w_enu ?_ | refine w_comp ?_
          | refine w_tp ?_ | refine w_tnil ?_ | refine w_tcons ?_
          | refine w_var (d := _) rfl rfl ?_ | refine w_varO (d := _) rfl rfl ?_ | refine w_lnv (d := _) rfl rfl ?_ | refine w_sbv (d0 := _) rfl ?_ | refine w_cio (d0 := _) rfl ?_ | refine w_app (l0 := _) rfl ?_ | refine w_st (d0 := _) rfl ?_ | refine w_retv (d := _) rfl ?_
          | refine w_nm (Nat.le_of_ble_eq_true rfl) ?_
          | refine ex_some (o_add _ _) ?_ | refine ex_some (o_sub _ _) ?_ | refine ex_some rfl ?_ | refine ex_int ?_ | refine ex_lst ?_ | refine ex_sbv rfl rfl rfl ?_ | refine ex_st rfl rfl rfl ?_
          | (refine ⟨(Nat.le_of_ble_eq_true rfl : _ ≤ lim), ?_⟩)))
        refine ⟨_, G0, ?_⟩
        refine ex_yes rfl ?_
        (repeat (first
          | refine w_bcons ?_ | refine w_asg ?_ | refine w_par ?_ | refine w_exp ?_ | refine w_ife ?_ | refine w_ret ?_ | refine w_bnil ?_ | refine w_brk ?_ | refine w_cnt ?_
          | refine w_con ?_ | refine w_bin ?_ | refine w_neg ?_ | refine w_not ?_ | refine w_and ?_ | refine w_or ?_ | refine w_ifx ?_ | refine w_cmp ?_ | refine w_chain ?_
          | refine w_anil ?_ | refine w_acons ?_ | refine w_tup ?_ | refine w_lst ?_ | refine w_sub ?_ | refine w_ono ?_ | refine w_oso ?_ | refine w_slice ?_ | refine w_blt ?_ | refine w_isi ?_
          | refine w_call ?_ | refine w_ckw ?_ | refine w_rvl ?_ | refine w_lrg ?_ | refine w_to ?_ | refine w_ft ?_ | refine w_it ?_ | refine w_rng ?_ | refine w_enu ?_ | refine w_comp ?_
          | refine w_tp ?_ | refine w_tnil ?_ | refine w_tcons ?_
          | refine w_var (d := _) rfl rfl ?_ | refine w_varO (d := _) rfl rfl ?_ | refine w_lnv (d := _) rfl rfl ?_ | refine w_sbv (d0 := _) rfl ?_ | refine w_cio (d0 := _) rfl ?_ | refine w_app (l0 := _) rfl ?_ | refine w_st (d0 := _) rfl ?_ | refine w_retv (d := _) rfl ?_
          | refine w_nm (Nat.le_of_ble_eq_true rfl) ?_
          | refine ex_some (o_add _ _) ?_ | refine ex_some (o_sub _ _) ?_ | refine ex_some rfl ?_ | refine ex_int ?_ | refine ex_lst ?_ | refine ex_sbv rfl rfl rfl ?_ | refine ex_st rfl rfl rfl ?_
          | (refine ⟨(Nat.le_of_ble_eq_true rfl : _ ≤ lim), ?_⟩)))
        refine ⟨_, A.bp h hr hn hn2 pr, ?_⟩
        (repeat (first
          | refine w_bcons ?_ | refine w_asg ?_ | refine w_par ?_ | refine w_exp ?_ | refine w_ife ?_ | refine w_ret ?_ | refine w_bnil ?_ | refine w_brk ?_ | refine w_cnt ?_
          | refine w_con ?_ | refine w_bin ?_ | refine w_neg ?_ | refine w_not ?_ | refine w_and ?_ | refine w_or ?_ | refine w_ifx ?_ | refine w_cmp ?_ | refine w_chain ?_
          | refine w_anil ?_ | refine w_acons ?_ | refine w_tup ?_ | refine w_lst ?_ | refine w_sub ?_ | refine w_ono ?_ | refine w_oso ?_ | refine w_slice ?_ | refine w_blt ?_ | refine w_isi ?_
          | refine w_call ?_ | refine w_ckw ?_ | refine w_rvl ?_ | refine w_lrg ?_ | refine w_to ?_ | refine w_ft ?_ | refine w_it ?_ | refine w_rng ?_ | refine w_enu ?_ | refine w_comp ?_
          | refine w_tp ?_ | refine w_tnil ?_ | refine w_tcons ?_
          | refine w_var (d := _) rfl rfl ?_ | refine w_varO (d := _) rfl rfl ?_ | refine w_lnv (d := _) rfl rfl ?_ | refine w_sbv (d0 := _) rfl ?_ | refine w_cio (d0 := _) rfl ?_ | refine w_app (l0 := _) rfl ?_ | refine w_st (d0 := _) rfl ?_ | refine w_retv (d := _) rfl ?_
          | refine w_nm (Nat.le_of_ble_eq_true rfl) ?_
          | refine ex_some (o_add _ _) ?_ | refine ex_some (o_sub _ _) ?_ | refine ex_some rfl ?_ | refine ex_int ?_ | refine ex_lst ?_ | refine ex_sbv rfl rfl rfl ?_ | refine ex_st rfl rfl rfl ?_
          | (refine ⟨(Nat.le_of_ble_eq_true rfl : _ ≤ lim), ?_⟩)))
        refine ⟨_, G0, ?_⟩
        exact ⟨_, rfl, rfl, l1, rfl, g1⟩
def WrOk (C : Fn) : Prop := ∀ {p n c : Int}, PC p c → 1 ≤ n → n ≤ 16 → C 22 [.int p, .int n, .int c] = some (.bl true, [])
theorem wr_ok (k : Nat) : WrOk (callN fs (k + 4)) := fun {p n c} h h1 h2 => by
  rw [callN_eq (F := m__law_is_whole_right) rfl]
  exact wright _ (all_ok k) h h1 h2
def ArOk (C : Fn) : Prop := ∀ {l : List D}, Bg l → ∃ l', C 23 [.lst true l] = some (.bl true, [.lst true l']) ∧ Bg l'
theorem ar_ok (k : Nat) : ArOk (callN fs (k + 5)) := fun {l} hb => by
  rw [callN_eq (F := m__law_are_all_right) rfl]
  have A := all_ok (k + 1)
  have hW : WrOk (callN fs (k + 4)) := wr_ok k
  generalize callN fs (k + 4) = C at A hW
  have := w_runio (C := C) (F := m__law_are_all_right) (ds := [.lst true l]) (Q := fun d x' => d = .bl true ∧ ∃ l', x' = .lst true l' ∧ Bg l') rfl (by decide) rfl ?_
  · obtain ⟨d, x', e, rfl, l', rfl, q⟩ := this
    exact ⟨l', e, q⟩
  · show wB C _ [some (.lst true l), none, none, none, none, none, none, none, none] _
    refine w_then (fun ρ => ∃ l, ρ = [some (.lst true l), none, none, none, none, none, none, none, none] ∧ Bg l) ?_ fun ρ ⟨l1, eρ, g1⟩ => ?_
    · refine w_for ?_
      (repeat (first
        | refine w_bcons ?_ | refine w_asg ?_ | refine w_par ?_ | refine w_exp ?_ | refine w_ife ?_ | refine w_ret ?_ | refine w_bnil ?_ | refine w_brk ?_ | refine w_cnt ?_
        | refine w_con ?_ | refine w_bin ?_ | refine w_neg ?_ | refine w_not ?_ | refine w_and ?_ | refine w_or ?_ | refine w_ifx ?_ | refine w_cmp ?_ | refine w_chain ?_
        | refine w_anil ?_ | refine w_acons ?_ | refine w_tup ?_ | refine w_lst ?_ | refine w_sub ?_ | refine w_ono ?_ | refine w_oso ?_ | refine w_slice ?_ | refine w_blt ?_ | refine w_isi ?_
        | refine w_call ?_ | refine w_ckw ?_ | refine w_rvl ?_ | refine w_lrg ?_ | refine w_to ?_ | refine w_ft ?_ | refine w_it ?_ | refine w_rng ?_ | refine w_enu ?_ | refine w_comp ?_
        | refine w_tp ?_ | refine w_tnil ?_ | refine w_tcons ?_
        | refine w_var (d := _) rfl rfl ?_ | refine w_varO (d := _) rfl rfl ?_ | refine w_lnv (d := _) rfl rfl ?_ | refine w_sbv (d0 := _) rfl ?_ | refine w_cio (d0 := _) rfl ?_ | refine w_app (l0 := _) rfl ?_ | refine w_st (d0 := _) rfl ?_ | refine w_retv (d := _) rfl ?_
        | refine w_nm (Nat.le_of_ble_eq_true rfl) ?_
        | refine ex_some (o_add _ _) ?_ | refine ex_some (o_sub _ _) ?_ | refine ex_some rfl ?_ | refine ex_int ?_ | refine ex_lst ?_ | refine ex_sbv rfl rfl rfl ?_ | refine ex_st rfl rfl rfl ?_
        | (refine ⟨(Nat.le_of_ble_eq_true rfl : _ ≤ lim), ?_⟩)))
      refine ⟨fun k ρ => ∃ l y1 y2 y3 y4 y5 y6 y7 y8, ρ = [some (.lst true l), y1, y2, y3, y4, y5, y6, y7, y8] ∧ Bg l, ⟨l, _, _, _, _, _, _, _, _, rfl, hb⟩, fun k d ρ hdk ⟨l1, y1, y2, y3, y4, y5, y6, y7, y8, eρ, g1⟩ => ?_, fun ρ ⟨l1, y1, y2, y3, y4, y5, y6, y7, y8, eρ, g1⟩ => ?_⟩
      · subst eρ
        have hd : ∃ p, d = .int p ∧ prime p := by
          have hm := List.mem_of_getElem? hdk
          have hm : d ∈ [D.int 2, .int 3, .int 5, .int 7, .int 11, .int 13] := hm
          unfold prime
          simp only [List.mem_cons, List.not_mem_nil, or_false] at hm
          rcases hm with rfl | rfl | rfl | rfl | rfl | rfl <;> exact ⟨_, rfl, by simp⟩
        obtain ⟨p, rfl, hp⟩ := hd
        have hp13 : 2 ≤ p ∧ p ≤ 13 := by unfold prime at hp; omega
        refine w_nm (Nat.le_of_ble_eq_true rfl) ?_
        show wB C _ [some (.lst true l1), some (.int p), none, none, none, none, none, none, none] _
        refine w_then (fun ρ => ∃ l, ρ = [some (.lst true l), some (.int p), none, none, none, none, none, none, none] ∧ Bg l) ?_ fun ρ ⟨l2, eρ, g2⟩ => ?_
        · refine w_for ?_
          (repeat (first
            | refine w_bcons ?_ | refine w_asg ?_ | refine w_par ?_ | refine w_exp ?_ | refine w_ife ?_ | refine w_ret ?_ | refine w_bnil ?_ | refine w_brk ?_ | refine w_cnt ?_
            | refine w_con ?_ | refine w_bin ?_ | refine w_neg ?_ | refine w_not ?_ | refine w_and ?_ | refine w_or ?_ | refine w_ifx ?_ | refine w_cmp ?_ | refine w_chain ?_
            | refine w_anil ?_ | refine w_acons ?_ | refine w_tup ?_ | refine w_lst ?_ | refine w_sub ?_ | refine w_ono ?_ | refine w_oso ?_ | refine w_slice ?_ | refine w_blt ?_ | refine w_isi ?_
            | refine w_call ?_ | refine w_ckw ?_ | refine w_rvl ?_ | refine w_lrg ?_ | refine w_to ?_ | refine w_ft ?_ | refine w_it ?_ | refine w_rng ?_ | refine w_enu ?_ | refine w_comp ?_
            | refine w_tp ?_ | refine w_tnil ?_ | refine w_tcons ?_
            | refine w_var (d := _) rfl rfl ?_ | refine w_varO (d := _) rfl rfl ?_ | refine w_lnv (d := _) rfl rfl ?_ | refine w_sbv (d0 := _) rfl ?_ | refine w_cio (d0 := _) rfl ?_ | refine w_app (l0 := _) rfl ?_ | refine w_st (d0 := _) rfl ?_ | refine w_retv (d := _) rfl ?_
            | refine w_nm (Nat.le_of_ble_eq_true rfl) ?_
            | refine ex_some (o_add _ _) ?_ | refine ex_some (o_sub _ _) ?_ | refine ex_some rfl ?_ | refine ex_int ?_ | refine ex_lst ?_ | refine ex_sbv rfl rfl rfl ?_ | refine ex_st rfl rfl rfl ?_
            | (refine ⟨(Nat.le_of_ble_eq_true rfl : _ ≤ lim), ?_⟩)))
          refine ⟨_, _, rfl, rfl, by decide, sm62 (by omega), ?_⟩
          refine ⟨fun k ρ => ∃ l y2 y3 y4 y5 y6 y7 y8, ρ = [some (.lst true l), some (.int p), y2, y3, y4, y5, y6, y7, y8] ∧ Bg l, ⟨l1, _, _, _, _, _, _, _, rfl, g1⟩, fun k d ρ hdk ⟨l2, y2, y3, y4, y5, y6, y7, y8, eρ, g2⟩ => ?_, fun ρ ⟨l2, y2, y3, y4, y5, y6, y7, y8, eρ, g2⟩ => ?_⟩
          · subst eρ
            obtain ⟨hk, rfl⟩ := intsD_get hdk
            generalize hc : (1 + (k : Int)) = c
            have c1 : 1 ≤ c := by omega
            have cp : c < p := by omega
            have h := hp.pc c1 cp
            have o12 := h.o12
            refine w_nm (Nat.le_of_ble_eq_true rfl) ?_
            show wB C _ [some (.lst true l2), some (.int p), some (.int c), none, none, none, none, none, none] _
            refine w_then (fun ρ => ∃ l n, ρ = [some (.lst true l), some (.int p), some (.int c), some (.int n), none, none, none, none, none] ∧ Bg l ∧ 1 ≤ n ∧ n ≤ 16) ?_ fun ρ ⟨l3, n, eρ, g3, n1, n2⟩ => ?_
            · (repeat (first
                | refine w_bcons ?_ | refine w_asg ?_ | refine w_par ?_ | refine w_exp ?_ | refine w_ife ?_ | refine w_ret ?_ | refine w_bnil ?_ | refine w_brk ?_ | refine w_cnt ?_
                | refine w_con ?_ | refine w_bin ?_ | refine w_neg ?_ | refine w_not ?_ | refine w_and ?_ | refine w_or ?_ | refine w_ifx ?_ | refine w_cmp ?_ | refine w_chain ?_
                | refine w_anil ?_ | refine w_acons ?_ | refine w_tup ?_ | refine w_lst ?_ | refine w_sub ?_ | refine w_ono ?_ | refine w_oso ?_ | refine w_slice ?_ | refine w_blt ?_ | refine w_isi ?_
                | refine w_call ?_ | refine w_ckw ?_ | refine w_rvl ?_ | refine w_lrg ?_ | refine w_to ?_ | refine w_ft ?_ | refine w_it ?_ | refine w_rng ?_ | refine w_enu ?_ | refine w_comp ?_
                | refine w_tp ?_ | refine w_tnil ?_ | refine w_tcons ?_
                | refine w_var (d := _) rfl rfl ?_ | refine w_varO (d := _) rfl rfl ?_ | refine w_lnv (d := _) rfl rfl ?_ | refine w_sbv (d0 := _) rfl ?_ | refine w_cio (d0 := _) rfl ?_ | refine w_app (l0 := _) rfl ?_ | refine w_st (d0 := _) rfl ?_ | refine w_retv (d := _) rfl ?_
                | refine w_nm (Nat.le_of_ble_eq_true rfl) ?_
                | refine ex_some (o_add _ _) ?_ | refine ex_some (o_sub _ _) ?_ | refine ex_some rfl ?_ | refine ex_int ?_ | refine ex_lst ?_ | refine ex_sbv rfl rfl rfl ?_ | refine ex_st rfl rfl rfl ?_
                | (refine ⟨(Nat.le_of_ble_eq_true rfl : _ ≤ lim), ?_⟩)))
              obtain ⟨r, l3, e3, _, _, g3⟩ := A.draw l2 16 g2 (by decide) (by decide)
              refine ⟨_, _, _, rfl, e3, ?_⟩
              (repeat (first
                | refine w_bcons ?_ | refine w_asg ?_ | refine w_par ?_ | refine w_exp ?_ | refine w_ife ?_ | refine w_ret ?_ | refine w_bnil ?_ | refine w_brk ?_ | refine w_cnt ?_
                | refine w_con ?_ | refine w_bin ?_ | refine w_neg ?_ | refine w_not ?_ | refine w_and ?_ | refine w_or ?_ | refine w_ifx ?_ | refine w_cmp ?_ | refine w_chain ?_
                | refine w_anil ?_ | refine w_acons ?_ | refine w_tup ?_ | refine w_lst ?_ | refine w_sub ?_ | refine w_ono ?_ | refine w_oso ?_ | refine w_slice ?_ | refine w_blt ?_ | refine w_isi ?_
                | refine w_call ?_ | refine w_ckw ?_ | refine w_rvl ?_ | refine w_lrg ?_ | refine w_to ?_ | refine w_ft ?_ | refine w_it ?_ | refine w_rng ?_ | refine w_enu ?_ | refine w_comp ?_
                | refine w_tp ?_ | refine w_tnil ?_ | refine w_tcons ?_
                | refine w_var (d := _) rfl rfl ?_ | refine w_varO (d := _) rfl rfl ?_ | refine w_lnv (d := _) rfl rfl ?_ | refine w_sbv (d0 := _) rfl ?_ | refine w_cio (d0 := _) rfl ?_ | refine w_app (l0 := _) rfl ?_ | refine w_st (d0 := _) rfl ?_ | refine w_retv (d := _) rfl ?_
                | refine w_nm (Nat.le_of_ble_eq_true rfl) ?_
                | refine ex_some (o_add _ _) ?_ | refine ex_some (o_sub _ _) ?_ | refine ex_some rfl ?_ | refine ex_int ?_ | refine ex_lst ?_ | refine ex_sbv rfl rfl rfl ?_ | refine ex_st rfl rfl rfl ?_
                | (refine ⟨(Nat.le_of_ble_eq_true rfl : _ ≤ lim), ?_⟩)))
              exact ⟨rfl, l3, 1 + r, rfl, g3, by omega, by omega⟩
            · subst eρ
              refine w_then (fun ρ => ∃ l a x b, ρ = [some (.lst true l), some (.int p), some (.int c), some (.int n), some (.int a), some (.int x), some (.int b), none, none] ∧ Bg l ∧ 0 ≤ a ∧ a < n ∧ 0 < x ∧ x < p) ?_ fun ρ ⟨l4, a, x, b, eρ, g4, a0, a1, x0, x1⟩ => ?_
              · (repeat (first
                  | refine w_bcons ?_ | refine w_asg ?_ | refine w_par ?_ | refine w_exp ?_ | refine w_ife ?_ | refine w_ret ?_ | refine w_bnil ?_ | refine w_brk ?_ | refine w_cnt ?_
                  | refine w_con ?_ | refine w_bin ?_ | refine w_neg ?_ | refine w_not ?_ | refine w_and ?_ | refine w_or ?_ | refine w_ifx ?_ | refine w_cmp ?_ | refine w_chain ?_
                  | refine w_anil ?_ | refine w_acons ?_ | refine w_tup ?_ | refine w_lst ?_ | refine w_sub ?_ | refine w_ono ?_ | refine w_oso ?_ | refine w_slice ?_ | refine w_blt ?_ | refine w_isi ?_
                  | refine w_call ?_ | refine w_ckw ?_ | refine w_rvl ?_ | refine w_lrg ?_ | refine w_to ?_ | refine w_ft ?_ | refine w_it ?_ | refine w_rng ?_ | refine w_enu ?_ | refine w_comp ?_
                  | refine w_tp ?_ | refine w_tnil ?_ | refine w_tcons ?_
                  | refine w_var (d := _) rfl rfl ?_ | refine w_varO (d := _) rfl rfl ?_ | refine w_lnv (d := _) rfl rfl ?_ | refine w_sbv (d0 := _) rfl ?_ | refine w_cio (d0 := _) rfl ?_ | refine w_app (l0 := _) rfl ?_ | refine w_st (d0 := _) rfl ?_ | refine w_retv (d := _) rfl ?_
                  | refine w_nm (Nat.le_of_ble_eq_true rfl) ?_
                  | refine ex_some (o_add _ _) ?_ | refine ex_some (o_sub _ _) ?_ | refine ex_some rfl ?_ | refine ex_int ?_ | refine ex_lst ?_ | refine ex_sbv rfl rfl rfl ?_ | refine ex_st rfl rfl rfl ?_
                  | (refine ⟨(Nat.le_of_ble_eq_true rfl : _ ≤ lim), ?_⟩)))
                obtain ⟨a, l4, e4, a0, a1, g4⟩ := A.draw l3 n g3 (by omega) (by omega)
                refine ⟨_, _, _, rfl, e4, ?_⟩
                (repeat (first
                  | refine w_bcons ?_ | refine w_asg ?_ | refine w_par ?_ | refine w_exp ?_ | refine w_ife ?_ | refine w_ret ?_ | refine w_bnil ?_ | refine w_brk ?_ | refine w_cnt ?_
                  | refine w_con ?_ | refine w_bin ?_ | refine w_neg ?_ | refine w_not ?_ | refine w_and ?_ | refine w_or ?_ | refine w_ifx ?_ | refine w_cmp ?_ | refine w_chain ?_
                  | refine w_anil ?_ | refine w_acons ?_ | refine w_tup ?_ | refine w_lst ?_ | refine w_sub ?_ | refine w_ono ?_ | refine w_oso ?_ | refine w_slice ?_ | refine w_blt ?_ | refine w_isi ?_
                  | refine w_call ?_ | refine w_ckw ?_ | refine w_rvl ?_ | refine w_lrg ?_ | refine w_to ?_ | refine w_ft ?_ | refine w_it ?_ | refine w_rng ?_ | refine w_enu ?_ | refine w_comp ?_
                  | refine w_tp ?_ | refine w_tnil ?_ | refine w_tcons ?_
                  | refine w_var (d := _) rfl rfl ?_ | refine w_varO (d := _) rfl rfl ?_ | refine w_lnv (d := _) rfl rfl ?_ | refine w_sbv (d0 := _) rfl ?_ | refine w_cio (d0 := _) rfl ?_ | refine w_app (l0 := _) rfl ?_ | refine w_st (d0 := _) rfl ?_ | refine w_retv (d := _) rfl ?_
                  | refine w_nm (Nat.le_of_ble_eq_true rfl) ?_
                  | refine ex_some (o_add _ _) ?_ | refine ex_some (o_sub _ _) ?_ | refine ex_some rfl ?_ | refine ex_int ?_ | refine ex_lst ?_ | refine ex_sbv rfl rfl rfl ?_ | refine ex_st rfl rfl rfl ?_
                  | (refine ⟨(Nat.le_of_ble_eq_true rfl : _ ≤ lim), ?_⟩)))
                obtain ⟨x, l5, e5, x0, x1, g5⟩ := A.draw l4 (p - 1) g4 (by omega) (by omega)
                refine ⟨_, _, _, rfl, e5, ?_⟩
                (repeat (first
                  | refine w_bcons ?_ | refine w_asg ?_ | refine w_par ?_ | refine w_exp ?_ | refine w_ife ?_ | refine w_ret ?_ | refine w_bnil ?_ | refine w_brk ?_ | refine w_cnt ?_
                  | refine w_con ?_ | refine w_bin ?_ | refine w_neg ?_ | refine w_not ?_ | refine w_and ?_ | refine w_or ?_ | refine w_ifx ?_ | refine w_cmp ?_ | refine w_chain ?_
                  | refine w_anil ?_ | refine w_acons ?_ | refine w_tup ?_ | refine w_lst ?_ | refine w_sub ?_ | refine w_ono ?_ | refine w_oso ?_ | refine w_slice ?_ | refine w_blt ?_ | refine w_isi ?_
                  | refine w_call ?_ | refine w_ckw ?_ | refine w_rvl ?_ | refine w_lrg ?_ | refine w_to ?_ | refine w_ft ?_ | refine w_it ?_ | refine w_rng ?_ | refine w_enu ?_ | refine w_comp ?_
                  | refine w_tp ?_ | refine w_tnil ?_ | refine w_tcons ?_
                  | refine w_var (d := _) rfl rfl ?_ | refine w_varO (d := _) rfl rfl ?_ | refine w_lnv (d := _) rfl rfl ?_ | refine w_sbv (d0 := _) rfl ?_ | refine w_cio (d0 := _) rfl ?_ | refine w_app (l0 := _) rfl ?_ | refine w_st (d0 := _) rfl ?_ | refine w_retv (d := _) rfl ?_
                  | refine w_nm (Nat.le_of_ble_eq_true rfl) ?_
                  | refine ex_some (o_add _ _) ?_ | refine ex_some (o_sub _ _) ?_ | refine ex_some rfl ?_ | refine ex_int ?_ | refine ex_lst ?_ | refine ex_sbv rfl rfl rfl ?_ | refine ex_st rfl rfl rfl ?_
                  | (refine ⟨(Nat.le_of_ble_eq_true rfl : _ ≤ lim), ?_⟩)))
                obtain ⟨b, l6, e6, _, _, g6⟩ := A.int l5 g5
                refine ⟨_, _, _, rfl, e6, ?_⟩
                (repeat (first
                  | refine w_bcons ?_ | refine w_asg ?_ | refine w_par ?_ | refine w_exp ?_ | refine w_ife ?_ | refine w_ret ?_ | refine w_bnil ?_ | refine w_brk ?_ | refine w_cnt ?_
                  | refine w_con ?_ | refine w_bin ?_ | refine w_neg ?_ | refine w_not ?_ | refine w_and ?_ | refine w_or ?_ | refine w_ifx ?_ | refine w_cmp ?_ | refine w_chain ?_
                  | refine w_anil ?_ | refine w_acons ?_ | refine w_tup ?_ | refine w_lst ?_ | refine w_sub ?_ | refine w_ono ?_ | refine w_oso ?_ | refine w_slice ?_ | refine w_blt ?_ | refine w_isi ?_
                  | refine w_call ?_ | refine w_ckw ?_ | refine w_rvl ?_ | refine w_lrg ?_ | refine w_to ?_ | refine w_ft ?_ | refine w_it ?_ | refine w_rng ?_ | refine w_enu ?_ | refine w_comp ?_
                  | refine w_tp ?_ | refine w_tnil ?_ | refine w_tcons ?_
                  | refine w_var (d := _) rfl rfl ?_ | refine w_varO (d := _) rfl rfl ?_ | refine w_lnv (d := _) rfl rfl ?_ | refine w_sbv (d0 := _) rfl ?_ | refine w_cio (d0 := _) rfl ?_ | refine w_app (l0 := _) rfl ?_ | refine w_st (d0 := _) rfl ?_ | refine w_retv (d := _) rfl ?_
                  | refine w_nm (Nat.le_of_ble_eq_true rfl) ?_
                  | refine ex_some (o_add _ _) ?_ | refine ex_some (o_sub _ _) ?_ | refine ex_some rfl ?_ | refine ex_int ?_ | refine ex_lst ?_ | refine ex_sbv rfl rfl rfl ?_ | refine ex_st rfl rfl rfl ?_
                  | (refine ⟨(Nat.le_of_ble_eq_true rfl : _ ≤ lim), ?_⟩)))
                exact ⟨rfl, l6, a, 1 + x, b, rfl, g6, a0, a1, by omega, by omega⟩
              · subst eρ
                have ha : a.toNat < n.toNat := by omega
                have hr := oneR_row (n := n.toNat) (x := x) h ha ⟨Int.le_of_lt x0, x1⟩
                have pr := oneR_per (n := n.toNat) h ha x0 x1
                have hl := oneR_len (x := x) ha
                have ha1 : a = (a.toNat : Int) := (Int.toNat_of_nonneg a0).symm
                have hrow : List.replicate a.toNat 0 ++ [x] ++ List.replicate (n - 1 - a).toNat 0 = oneR n.toNat a.toNat x := by
                  unfold oneR
                  rw [show (n - 1 - a).toNat = n.toNat - 1 - a.toNat from by omega]
                (repeat (first
                  | refine w_bcons ?_ | refine w_asg ?_ | refine w_par ?_ | refine w_exp ?_ | refine w_ife ?_ | refine w_ret ?_ | refine w_bnil ?_ | refine w_brk ?_ | refine w_cnt ?_
                  | refine w_con ?_ | refine w_bin ?_ | refine w_neg ?_ | refine w_not ?_ | refine w_and ?_ | refine w_or ?_ | refine w_ifx ?_ | refine w_cmp ?_ | refine w_chain ?_
                  | refine w_anil ?_ | refine w_acons ?_ | refine w_tup ?_ | refine w_lst ?_ | refine w_sub ?_ | refine w_ono ?_ | refine w_oso ?_ | refine w_slice ?_ | refine w_blt ?_ | refine w_isi ?_
                  | refine w_call ?_ | refine w_ckw ?_ | refine w_rvl ?_ | refine w_lrg ?_ | refine w_to ?_ | refine w_ft ?_ | refine w_it ?_ | refine w_rng ?_ | refine w_enu ?_ | refine w_comp ?_
                  | refine w_tp ?_ | refine w_tnil ?_ | refine w_tcons ?_
                  | refine w_var (d := _) rfl rfl ?_ | refine w_varO (d := _) rfl rfl ?_ | refine w_lnv (d := _) rfl rfl ?_ | refine w_sbv (d0 := _) rfl ?_ | refine w_cio (d0 := _) rfl ?_ | refine w_app (l0 := _) rfl ?_ | refine w_st (d0 := _) rfl ?_ | refine w_retv (d := _) rfl ?_
                  | refine w_nm (Nat.le_of_ble_eq_true rfl) ?_
                  | refine ex_some (o_add _ _) ?_ | refine ex_some (o_sub _ _) ?_ | refine ex_some rfl ?_ | refine ex_int ?_ | refine ex_lst ?_ | refine ex_sbv rfl rfl rfl ?_ | refine ex_st rfl rfl rfl ?_
                  | (refine ⟨(Nat.le_of_ble_eq_true rfl : _ ≤ lim), ?_⟩)))
                refine ex_some (tmul (x := 0) (k := a) (by omega) (by omega)) ?_
                (repeat (first
                  | refine w_bcons ?_ | refine w_asg ?_ | refine w_par ?_ | refine w_exp ?_ | refine w_ife ?_ | refine w_ret ?_ | refine w_bnil ?_ | refine w_brk ?_ | refine w_cnt ?_
                  | refine w_con ?_ | refine w_bin ?_ | refine w_neg ?_ | refine w_not ?_ | refine w_and ?_ | refine w_or ?_ | refine w_ifx ?_ | refine w_cmp ?_ | refine w_chain ?_
                  | refine w_anil ?_ | refine w_acons ?_ | refine w_tup ?_ | refine w_lst ?_ | refine w_sub ?_ | refine w_ono ?_ | refine w_oso ?_ | refine w_slice ?_ | refine w_blt ?_ | refine w_isi ?_
                  | refine w_call ?_ | refine w_ckw ?_ | refine w_rvl ?_ | refine w_lrg ?_ | refine w_to ?_ | refine w_ft ?_ | refine w_it ?_ | refine w_rng ?_ | refine w_enu ?_ | refine w_comp ?_
                  | refine w_tp ?_ | refine w_tnil ?_ | refine w_tcons ?_
                  | refine w_var (d := _) rfl rfl ?_ | refine w_varO (d := _) rfl rfl ?_ | refine w_lnv (d := _) rfl rfl ?_ | refine w_sbv (d0 := _) rfl ?_ | refine w_cio (d0 := _) rfl ?_ | refine w_app (l0 := _) rfl ?_ | refine w_st (d0 := _) rfl ?_ | refine w_retv (d := _) rfl ?_
                  | refine w_nm (Nat.le_of_ble_eq_true rfl) ?_
                  | refine ex_some (o_add _ _) ?_ | refine ex_some (o_sub _ _) ?_ | refine ex_some rfl ?_ | refine ex_int ?_ | refine ex_lst ?_ | refine ex_sbv rfl rfl rfl ?_ | refine ex_st rfl rfl rfl ?_
                  | (refine ⟨(Nat.le_of_ble_eq_true rfl : _ ≤ lim), ?_⟩)))
                refine ex_some (tadd (List.replicate a.toNat 0) [x] (by rw [List.length_replicate]; simp; omega)) ?_
                (repeat (first
                  | refine w_bcons ?_ | refine w_asg ?_ | refine w_par ?_ | refine w_exp ?_ | refine w_ife ?_ | refine w_ret ?_ | refine w_bnil ?_ | refine w_brk ?_ | refine w_cnt ?_
                  | refine w_con ?_ | refine w_bin ?_ | refine w_neg ?_ | refine w_not ?_ | refine w_and ?_ | refine w_or ?_ | refine w_ifx ?_ | refine w_cmp ?_ | refine w_chain ?_
                  | refine w_anil ?_ | refine w_acons ?_ | refine w_tup ?_ | refine w_lst ?_ | refine w_sub ?_ | refine w_ono ?_ | refine w_oso ?_ | refine w_slice ?_ | refine w_blt ?_ | refine w_isi ?_
                  | refine w_call ?_ | refine w_ckw ?_ | refine w_rvl ?_ | refine w_lrg ?_ | refine w_to ?_ | refine w_ft ?_ | refine w_it ?_ | refine w_rng ?_ | refine w_enu ?_ | refine w_comp ?_
                  | refine w_tp ?_ | refine w_tnil ?_ | refine w_tcons ?_
                  | refine w_var (d := _) rfl rfl ?_ | refine w_varO (d := _) rfl rfl ?_ | refine w_lnv (d := _) rfl rfl ?_ | refine w_sbv (d0 := _) rfl ?_ | refine w_cio (d0 := _) rfl ?_ | refine w_app (l0 := _) rfl ?_ | refine w_st (d0 := _) rfl ?_ | refine w_retv (d := _) rfl ?_
                  | refine w_nm (Nat.le_of_ble_eq_true rfl) ?_
                  | refine ex_some (o_add _ _) ?_ | refine ex_some (o_sub _ _) ?_ | refine ex_some rfl ?_ | refine ex_int ?_ | refine ex_lst ?_ | refine ex_sbv rfl rfl rfl ?_ | refine ex_st rfl rfl rfl ?_
                  | (refine ⟨(Nat.le_of_ble_eq_true rfl : _ ≤ lim), ?_⟩)))
                refine ex_some (tmul (x := 0) (k := n - 1 - a) (by omega) (by omega)) ?_
                refine ex_some (tadd (List.replicate a.toNat 0 ++ [x]) (List.replicate (n - 1 - a).toNat 0) (by rw [List.length_append, List.length_replicate, List.length_replicate]; simp; omega)) ?_
                rw [hrow]
                generalize oneR n.toNat a.toNat x = row at hr pr hl
                have hn : 0 < row.length := by omega
                have hn2 : row.length ≤ 16 := by omega
                (repeat (first
                  | refine w_bcons ?_ | refine w_asg ?_ | refine w_par ?_ | refine w_exp ?_ | refine w_ife ?_ | refine w_ret ?_ | refine w_bnil ?_ | refine w_brk ?_ | refine w_cnt ?_
                  | refine w_con ?_ | refine w_bin ?_ | refine w_neg ?_ | refine w_not ?_ | refine w_and ?_ | refine w_or ?_ | refine w_ifx ?_ | refine w_cmp ?_ | refine w_chain ?_
                  | refine w_anil ?_ | refine w_acons ?_ | refine w_tup ?_ | refine w_lst ?_ | refine w_sub ?_ | refine w_ono ?_ | refine w_oso ?_ | refine w_slice ?_ | refine w_blt ?_ | refine w_isi ?_
                  | refine w_call ?_ | refine w_ckw ?_ | refine w_rvl ?_ | refine w_lrg ?_ | refine w_to ?_ | refine w_ft ?_ | refine w_it ?_ | refine w_rng ?_ | refine w_enu ?_ | refine w_comp ?_
                  | refine w_tp ?_ | refine w_tnil ?_ | refine w_tcons ?_
                  | refine w_var (d := _) rfl rfl ?_ | refine w_varO (d := _) rfl rfl ?_ | refine w_lnv (d := _) rfl rfl ?_ | refine w_sbv (d0 := _) rfl ?_ | refine w_cio (d0 := _) rfl ?_ | refine w_app (l0 := _) rfl ?_ | refine w_st (d0 := _) rfl ?_ | refine w_retv (d := _) rfl ?_
                  | refine w_nm (Nat.le_of_ble_eq_true rfl) ?_
                  | refine ex_some (o_add _ _) ?_ | refine ex_some (o_sub _ _) ?_ | refine ex_some rfl ?_ | refine ex_int ?_ | refine ex_lst ?_ | refine ex_sbv rfl rfl rfl ?_ | refine ex_st rfl rfl rfl ?_
                  | (refine ⟨(Nat.le_of_ble_eq_true rfl : _ ≤ lim), ?_⟩)))
                refine ⟨_, A.lt h hr hn hn2 b, ?_⟩
                (repeat (first
                  | refine w_bcons ?_ | refine w_asg ?_ | refine w_par ?_ | refine w_exp ?_ | refine w_ife ?_ | refine w_ret ?_ | refine w_bnil ?_ | refine w_brk ?_ | refine w_cnt ?_
                  | refine w_con ?_ | refine w_bin ?_ | refine w_neg ?_ | refine w_not ?_ | refine w_and ?_ | refine w_or ?_ | refine w_ifx ?_ | refine w_cmp ?_ | refine w_chain ?_
                  | refine w_anil ?_ | refine w_acons ?_ | refine w_tup ?_ | refine w_lst ?_ | refine w_sub ?_ | refine w_ono ?_ | refine w_oso ?_ | refine w_slice ?_ | refine w_blt ?_ | refine w_isi ?_
                  | refine w_call ?_ | refine w_ckw ?_ | refine w_rvl ?_ | refine w_lrg ?_ | refine w_to ?_ | refine w_ft ?_ | refine w_it ?_ | refine w_rng ?_ | refine w_enu ?_ | refine w_comp ?_
                  | refine w_tp ?_ | refine w_tnil ?_ | refine w_tcons ?_
                  | refine w_var (d := _) rfl rfl ?_ | refine w_varO (d := _) rfl rfl ?_ | refine w_lnv (d := _) rfl rfl ?_ | refine w_sbv (d0 := _) rfl ?_ | refine w_cio (d0 := _) rfl ?_ | refine w_app (l0 := _) rfl ?_ | refine w_st (d0 := _) rfl ?_ | refine w_retv (d := _) rfl ?_
                  | refine w_nm (Nat.le_of_ble_eq_true rfl) ?_
                  | refine ex_some (o_add _ _) ?_ | refine ex_some (o_sub _ _) ?_ | refine ex_some rfl ?_ | refine ex_int ?_ | refine ex_lst ?_ | refine ex_sbv rfl rfl rfl ?_ | refine ex_st rfl rfl rfl ?_
                  | (refine ⟨(Nat.le_of_ble_eq_true rfl : _ ≤ lim), ?_⟩)))
                refine ⟨_, hW h n1 n2, ?_⟩
                refine ex_bl ?_
                refine ex_not rfl ?_
                (repeat (first
                  | refine w_bcons ?_ | refine w_asg ?_ | refine w_par ?_ | refine w_exp ?_ | refine w_ife ?_ | refine w_ret ?_ | refine w_bnil ?_ | refine w_brk ?_ | refine w_cnt ?_
                  | refine w_con ?_ | refine w_bin ?_ | refine w_neg ?_ | refine w_not ?_ | refine w_and ?_ | refine w_or ?_ | refine w_ifx ?_ | refine w_cmp ?_ | refine w_chain ?_
                  | refine w_anil ?_ | refine w_acons ?_ | refine w_tup ?_ | refine w_lst ?_ | refine w_sub ?_ | refine w_ono ?_ | refine w_oso ?_ | refine w_slice ?_ | refine w_blt ?_ | refine w_isi ?_
                  | refine w_call ?_ | refine w_ckw ?_ | refine w_rvl ?_ | refine w_lrg ?_ | refine w_to ?_ | refine w_ft ?_ | refine w_it ?_ | refine w_rng ?_ | refine w_enu ?_ | refine w_comp ?_
                  | refine w_tp ?_ | refine w_tnil ?_ | refine w_tcons ?_
                  | refine w_var (d := _) rfl rfl ?_ | refine w_varO (d := _) rfl rfl ?_ | refine w_lnv (d := _) rfl rfl ?_ | refine w_sbv (d0 := _) rfl ?_ | refine w_cio (d0 := _) rfl ?_ | refine w_app (l0 := _) rfl ?_ | refine w_st (d0 := _) rfl ?_ | refine w_retv (d := _) rfl ?_
                  | refine w_nm (Nat.le_of_ble_eq_true rfl) ?_
                  | refine ex_some (o_add _ _) ?_ | refine ex_some (o_sub _ _) ?_ | refine ex_some rfl ?_ | refine ex_int ?_ | refine ex_lst ?_ | refine ex_sbv rfl rfl rfl ?_ | refine ex_st rfl rfl rfl ?_
                  | (refine ⟨(Nat.le_of_ble_eq_true rfl : _ ≤ lim), ?_⟩)))
                refine ⟨_, A.bt h hr hn hn2 b, ?_⟩
                (repeat (first
                  | refine w_bcons ?_ | refine w_asg ?_ | refine w_par ?_ | refine w_exp ?_ | refine w_ife ?_ | refine w_ret ?_ | refine w_bnil ?_ | refine w_brk ?_ | refine w_cnt ?_
                  | refine w_con ?_ | refine w_bin ?_ | refine w_neg ?_ | refine w_not ?_ | refine w_and ?_ | refine w_or ?_ | refine w_ifx ?_ | refine w_cmp ?_ | refine w_chain ?_
                  | refine w_anil ?_ | refine w_acons ?_ | refine w_tup ?_ | refine w_lst ?_ | refine w_sub ?_ | refine w_ono ?_ | refine w_oso ?_ | refine w_slice ?_ | refine w_blt ?_ | refine w_isi ?_
                  | refine w_call ?_ | refine w_ckw ?_ | refine w_rvl ?_ | refine w_lrg ?_ | refine w_to ?_ | refine w_ft ?_ | refine w_it ?_ | refine w_rng ?_ | refine w_enu ?_ | refine w_comp ?_
                  | refine w_tp ?_ | refine w_tnil ?_ | refine w_tcons ?_
                  | refine w_var (d := _) rfl rfl ?_ | refine w_varO (d := _) rfl rfl ?_ | refine w_lnv (d := _) rfl rfl ?_ | refine w_sbv (d0 := _) rfl ?_ | refine w_cio (d0 := _) rfl ?_ | refine w_app (l0 := _) rfl ?_ | refine w_st (d0 := _) rfl ?_ | refine w_retv (d := _) rfl ?_
                  | refine w_nm (Nat.le_of_ble_eq_true rfl) ?_
                  | refine ex_some (o_add _ _) ?_ | refine ex_some (o_sub _ _) ?_ | refine ex_some rfl ?_ | refine ex_int ?_ | refine ex_lst ?_ | refine ex_sbv rfl rfl rfl ?_ | refine ex_st rfl rfl rfl ?_
                  | (refine ⟨(Nat.le_of_ble_eq_true rfl : _ ≤ lim), ?_⟩)))
                refine ⟨_, A.row h (T_row h hr b) (by rw [T_len]; exact hn2), ?_⟩
                refine ex_bl ?_
                refine ex_not rfl ?_
                (repeat (first
                  | refine w_bcons ?_ | refine w_asg ?_ | refine w_par ?_ | refine w_exp ?_ | refine w_ife ?_ | refine w_ret ?_ | refine w_bnil ?_ | refine w_brk ?_ | refine w_cnt ?_
                  | refine w_con ?_ | refine w_bin ?_ | refine w_neg ?_ | refine w_not ?_ | refine w_and ?_ | refine w_or ?_ | refine w_ifx ?_ | refine w_cmp ?_ | refine w_chain ?_
                  | refine w_anil ?_ | refine w_acons ?_ | refine w_tup ?_ | refine w_lst ?_ | refine w_sub ?_ | refine w_ono ?_ | refine w_oso ?_ | refine w_slice ?_ | refine w_blt ?_ | refine w_isi ?_
                  | refine w_call ?_ | refine w_ckw ?_ | refine w_rvl ?_ | refine w_lrg ?_ | refine w_to ?_ | refine w_ft ?_ | refine w_it ?_ | refine w_rng ?_ | refine w_enu ?_ | refine w_comp ?_
                  | refine w_tp ?_ | refine w_tnil ?_ | refine w_tcons ?_
                  | refine w_var (d := _) rfl rfl ?_ | refine w_varO (d := _) rfl rfl ?_ | refine w_lnv (d := _) rfl rfl ?_ | refine w_sbv (d0 := _) rfl ?_ | refine w_cio (d0 := _) rfl ?_ | refine w_app (l0 := _) rfl ?_ | refine w_st (d0 := _) rfl ?_ | refine w_retv (d := _) rfl ?_
                  | refine w_nm (Nat.le_of_ble_eq_true rfl) ?_
                  | refine ex_some (o_add _ _) ?_ | refine ex_some (o_sub _ _) ?_ | refine ex_some rfl ?_ | refine ex_int ?_ | refine ex_lst ?_ | refine ex_sbv rfl rfl rfl ?_ | refine ex_st rfl rfl rfl ?_
                  | (refine ⟨(Nat.le_of_ble_eq_true rfl : _ ≤ lim), ?_⟩)))
                refine ⟨_, A.bp h hr hn hn2 pr, ?_⟩
                (repeat (first
                  | refine w_bcons ?_ | refine w_asg ?_ | refine w_par ?_ | refine w_exp ?_ | refine w_ife ?_ | refine w_ret ?_ | refine w_bnil ?_ | refine w_brk ?_ | refine w_cnt ?_
                  | refine w_con ?_ | refine w_bin ?_ | refine w_neg ?_ | refine w_not ?_ | refine w_and ?_ | refine w_or ?_ | refine w_ifx ?_ | refine w_cmp ?_ | refine w_chain ?_
                  | refine w_anil ?_ | refine w_acons ?_ | refine w_tup ?_ | refine w_lst ?_ | refine w_sub ?_ | refine w_ono ?_ | refine w_oso ?_ | refine w_slice ?_ | refine w_blt ?_ | refine w_isi ?_
                  | refine w_call ?_ | refine w_ckw ?_ | refine w_rvl ?_ | refine w_lrg ?_ | refine w_to ?_ | refine w_ft ?_ | refine w_it ?_ | refine w_rng ?_ | refine w_enu ?_ | refine w_comp ?_
                  | refine w_tp ?_ | refine w_tnil ?_ | refine w_tcons ?_
                  | refine w_var (d := _) rfl rfl ?_ | refine w_varO (d := _) rfl rfl ?_ | refine w_lnv (d := _) rfl rfl ?_ | refine w_sbv (d0 := _) rfl ?_ | refine w_cio (d0 := _) rfl ?_ | refine w_app (l0 := _) rfl ?_ | refine w_st (d0 := _) rfl ?_ | refine w_retv (d := _) rfl ?_
                  | refine w_nm (Nat.le_of_ble_eq_true rfl) ?_
                  | refine ex_some (o_add _ _) ?_ | refine ex_some (o_sub _ _) ?_ | refine ex_some rfl ?_ | refine ex_int ?_ | refine ex_lst ?_ | refine ex_sbv rfl rfl rfl ?_ | refine ex_st rfl rfl rfl ?_
                  | (refine ⟨(Nat.le_of_ble_eq_true rfl : _ ≤ lim), ?_⟩)))
                refine ⟨_, A.pow h, ?_⟩
                refine ex_some (z := .int (ord p c)) (by show some (D.int ((D.fzA (iA (pw p c))).length : Nat)) = _; rw [fzA_i, List.length_map, pw_len]) ?_
                refine ex_some (o_mulS (by omega) (by omega) (by omega) (by omega)) ?_
                rw [show n * (ord p c : Int) = ((n.toNat * ord p c : Nat) : Int) from by rw [Int.natCast_mul, Int.toNat_of_nonneg (by omega)]]
                (repeat (first
                  | refine w_bcons ?_ | refine w_asg ?_ | refine w_par ?_ | refine w_exp ?_ | refine w_ife ?_ | refine w_ret ?_ | refine w_bnil ?_ | refine w_brk ?_ | refine w_cnt ?_
                  | refine w_con ?_ | refine w_bin ?_ | refine w_neg ?_ | refine w_not ?_ | refine w_and ?_ | refine w_or ?_ | refine w_ifx ?_ | refine w_cmp ?_ | refine w_chain ?_
                  | refine w_anil ?_ | refine w_acons ?_ | refine w_tup ?_ | refine w_lst ?_ | refine w_sub ?_ | refine w_ono ?_ | refine w_oso ?_ | refine w_slice ?_ | refine w_blt ?_ | refine w_isi ?_
                  | refine w_call ?_ | refine w_ckw ?_ | refine w_rvl ?_ | refine w_lrg ?_ | refine w_to ?_ | refine w_ft ?_ | refine w_it ?_ | refine w_rng ?_ | refine w_enu ?_ | refine w_comp ?_
                  | refine w_tp ?_ | refine w_tnil ?_ | refine w_tcons ?_
                  | refine w_var (d := _) rfl rfl ?_ | refine w_varO (d := _) rfl rfl ?_ | refine w_lnv (d := _) rfl rfl ?_ | refine w_sbv (d0 := _) rfl ?_ | refine w_cio (d0 := _) rfl ?_ | refine w_app (l0 := _) rfl ?_ | refine w_st (d0 := _) rfl ?_ | refine w_retv (d := _) rfl ?_
                  | refine w_nm (Nat.le_of_ble_eq_true rfl) ?_
                  | refine ex_some (o_add _ _) ?_ | refine ex_some (o_sub _ _) ?_ | refine ex_some rfl ?_ | refine ex_int ?_ | refine ex_lst ?_ | refine ex_sbv rfl rfl rfl ?_ | refine ex_st rfl rfl rfl ?_
                  | (refine ⟨(Nat.le_of_ble_eq_true rfl : _ ≤ lim), ?_⟩)))
                refine ⟨_, A.per (n := n.toNat) h hn hn2 pr, ?_⟩
                refine ex_bl ?_
                refine ex_not rfl ?_
                (repeat (first
                  | refine w_bcons ?_ | refine w_asg ?_ | refine w_par ?_ | refine w_exp ?_ | refine w_ife ?_ | refine w_ret ?_ | refine w_bnil ?_ | refine w_brk ?_ | refine w_cnt ?_
                  | refine w_con ?_ | refine w_bin ?_ | refine w_neg ?_ | refine w_not ?_ | refine w_and ?_ | refine w_or ?_ | refine w_ifx ?_ | refine w_cmp ?_ | refine w_chain ?_
                  | refine w_anil ?_ | refine w_acons ?_ | refine w_tup ?_ | refine w_lst ?_ | refine w_sub ?_ | refine w_ono ?_ | refine w_oso ?_ | refine w_slice ?_ | refine w_blt ?_ | refine w_isi ?_
                  | refine w_call ?_ | refine w_ckw ?_ | refine w_rvl ?_ | refine w_lrg ?_ | refine w_to ?_ | refine w_ft ?_ | refine w_it ?_ | refine w_rng ?_ | refine w_enu ?_ | refine w_comp ?_
                  | refine w_tp ?_ | refine w_tnil ?_ | refine w_tcons ?_
                  | refine w_var (d := _) rfl rfl ?_ | refine w_varO (d := _) rfl rfl ?_ | refine w_lnv (d := _) rfl rfl ?_ | refine w_sbv (d0 := _) rfl ?_ | refine w_cio (d0 := _) rfl ?_ | refine w_app (l0 := _) rfl ?_ | refine w_st (d0 := _) rfl ?_ | refine w_retv (d := _) rfl ?_
                  | refine w_nm (Nat.le_of_ble_eq_true rfl) ?_
                  | refine ex_some (o_add _ _) ?_ | refine ex_some (o_sub _ _) ?_ | refine ex_some rfl ?_ | refine ex_int ?_ | refine ex_lst ?_ | refine ex_sbv rfl rfl rfl ?_ | refine ex_st rfl rfl rfl ?_
                  | (refine ⟨(Nat.le_of_ble_eq_true rfl : _ ≤ lim), ?_⟩)))
                exact ⟨l4, _, _, _, _, _, _, _, rfl, g4⟩
          · subst eρ
            exact ⟨rfl, l2, rfl, g2⟩
        · subst eρ
          exact w_bnil ⟨l2, _, _, _, _, _, _, _, _, rfl, g2⟩
      · subst eρ
        exact ⟨rfl, l1, rfl, g1⟩
    · subst eρ
      (repeat (first
        | refine w_bcons ?_ | refine w_asg ?_ | refine w_par ?_ | refine w_exp ?_ | refine w_ife ?_ | refine w_ret ?_ | refine w_bnil ?_ | refine w_brk ?_ | refine w_cnt ?_
        | refine w_con ?_ | refine w_bin ?_ | refine w_neg ?_ | refine w_not ?_ | refine w_and ?_ | refine w_or ?_ | refine w_ifx ?_ | refine w_cmp ?_ | refine w_chain ?_
        | refine w_anil ?_ | refine w_acons ?_ | refine w_tup ?_ | refine w_lst ?_ | refine w_sub ?_ | refine w_ono ?_ | refine w_oso ?_ | refine w_slice ?_ | refine w_blt ?_ | refine w_isi ?_
        | refine w_call ?_ | refine w_ckw ?_ | refine w_rvl ?_ | refine w_lrg ?_ | refine w_to ?_ | refine w_ft ?_ | refine w_it ?_ | refine w_rng ?_ | refine w_enu ?_ | refine w_comp ?_
        | refine w_tp ?_ | refine w_tnil ?_ | refine w_tcons ?_
        | refine w_var (d := _) rfl rfl ?_ | refine w_varO (d := _) rfl rfl ?_ | refine w_lnv (d := _) rfl rfl ?_ | refine w_sbv (d0 := _) rfl ?_ | refine w_cio (d0 := _) rfl ?_ | refine w_app (l0 := _) rfl ?_ | refine w_st (d0 := _) rfl ?_ | refine w_retv (d := _) rfl ?_
        | refine w_nm (Nat.le_of_ble_eq_true rfl) ?_
        | refine ex_some (o_add _ _) ?_ | refine ex_some (o_sub _ _) ?_ | refine ex_some rfl ?_ | refine ex_int ?_ | refine ex_lst ?_ | refine ex_sbv rfl rfl rfl ?_ | refine ex_st rfl rfl rfl ?_
        | (refine ⟨(Nat.le_of_ble_eq_true rfl : _ ≤ lim), ?_⟩)))
      exact ⟨_, rfl, rfl, l1, rfl, g1⟩
end R49

namespace R49
open PySem PySem.Spec Rr
theorem fx1 (k : Nat) : (isI (callN fs (k + 5) 5 [.int 3, .int 2, iT [1, 2, 0, 1]]) 8 && isI (callN fs (k + 5) 18 [.int 3, .int 2, iT [1, 2, 0, 1]]) 8) = true := by kernel_rfl
theorem fx2 (k : Nat) : (isI (callN fs (k + 5) 5 [.int 3, .int 2, iT [0, 0, 0, 0]]) 1 && isI (callN fs (k + 5) 18 [.int 3, .int 2, iT [0, 0, 0, 0]]) 1) = true := by kernel_rfl
theorem fx3 (k : Nat) : (isI (callN fs (k + 5) 5 [.int 5, .int 4, iT [1, 2]]) 4 && isI (callN fs (k + 5) 18 [.int 5, .int 4, iT [1, 2]]) 4) = true := by kernel_rfl
theorem fx4 (k : Nat) : (isI (callN fs (k + 5) 5 [.int 13, .int 2, iT [5]]) 12 && isI (callN fs (k + 5) 18 [.int 13, .int 2, iT [5]]) 12) = true := by kernel_rfl
theorem fx_of {r s : Option (D × List D)} {i : Int} (h : (isI r i && isI s i) = true) : r = some (.int i, []) ∧ s = some (.int i, []) := by
  rw [Bool.and_eq_true] at h
  exact ⟨isI_ok h.1, isI_ok h.2⟩
theorem law_ok (k : Nat) {ns : List Int} (hl : ns.length ≤ 63) : callN fs (k + 6) 28 [.scr ns] = some (.bl true, []) := by
  rw [callN_eq (F := m_law) rfl]
  have A : All (callN fs (k + 5)) := all_ok (k + 2)
  have hSh : ShOk (callN fs (k + 5)) := sh_ok (k + 1)
  have hOw : OwOk (callN fs (k + 5)) := ow_ok k
  have hSe : SeOk (callN fs (k + 5)) := se_ok (k + 1)
  have hTu : TuOk (callN fs (k + 5)) := tu_ok k
  have hPe : PeOk (callN fs (k + 5)) := pe_ok (k + 1)
  have hPl : PlOk (callN fs (k + 5)) := pl_ok (k + 1)
  have hWr : WrOk (callN fs (k + 5)) := wr_ok (k + 1)
  have hAr : ArOk (callN fs (k + 5)) := ar_ok k
  have hBag : ∃ l, callN fs (k + 5) 8 [.scr ns] = some (.lst true l, []) ∧ Bg l := by
    rw [callN_eq (F := m__law_own_bag) rfl]
    exact own_bag _ hl
  have x1 := fx_of (fx1 k)
  have x2 := fx_of (fx2 k)
  have x3 := fx_of (fx3 k)
  have x4 := fx_of (fx4 k)
  generalize callN fs (k + 5) = C at *
  obtain ⟨l0, eb, g0⟩ := hBag
  refine w_run rfl (by decide) rfl ?_
  show wB C _ [some (.scr ns), none, none, none, none, none, none, none, none, none] _
  (repeat (first
    | refine w_bcons ?_ | refine w_asg ?_ | refine w_par ?_ | refine w_exp ?_ | refine w_ife ?_ | refine w_ret ?_ | refine w_bnil ?_ | refine w_brk ?_ | refine w_cnt ?_
    | refine w_con ?_ | refine w_bin ?_ | refine w_neg ?_ | refine w_not ?_ | refine w_and ?_ | refine w_or ?_ | refine w_ifx ?_ | refine w_cmp ?_ | refine w_chain ?_
    | refine w_anil ?_ | refine w_acons ?_ | refine w_tup ?_ | refine w_lst ?_ | refine w_sub ?_ | refine w_ono ?_ | refine w_oso ?_ | refine w_slice ?_ | refine w_blt ?_ | refine w_isi ?_
    | refine w_call ?_ | refine w_ckw ?_ | refine w_rvl ?_ | refine w_lrg ?_ | refine w_to ?_ | refine w_ft ?_ | refine w_it ?_ | refine w_rng ?_ | refine w_enu ?_ | refine w_comp ?_
    | refine w_tp ?_ | refine w_tnil ?_ | refine w_tcons ?_
    | refine w_var (d := _) rfl rfl ?_ | refine w_varO (d := _) rfl rfl ?_ | refine w_lnv (d := _) rfl rfl ?_ | refine w_sbv (d0 := _) rfl ?_ | refine w_cio (d0 := _) rfl ?_ | refine w_app (l0 := _) rfl ?_ | refine w_st (d0 := _) rfl ?_ | refine w_retv (d := _) rfl ?_
    | refine w_nm (Nat.le_of_ble_eq_true rfl) ?_
    | refine ex_some (o_add _ _) ?_ | refine ex_some (o_sub _ _) ?_ | refine ex_some rfl ?_ | refine ex_int ?_ | refine ex_lst ?_ | refine ex_sbv rfl rfl rfl ?_ | refine ex_st rfl rfl rfl ?_
    | (refine ⟨(Nat.le_of_ble_eq_true rfl : _ ≤ lim), ?_⟩)))
  refine ⟨_, eb, ?_⟩
  (repeat (first
    | refine w_bcons ?_ | refine w_asg ?_ | refine w_par ?_ | refine w_exp ?_ | refine w_ife ?_ | refine w_ret ?_ | refine w_bnil ?_ | refine w_brk ?_ | refine w_cnt ?_
    | refine w_con ?_ | refine w_bin ?_ | refine w_neg ?_ | refine w_not ?_ | refine w_and ?_ | refine w_or ?_ | refine w_ifx ?_ | refine w_cmp ?_ | refine w_chain ?_
    | refine w_anil ?_ | refine w_acons ?_ | refine w_tup ?_ | refine w_lst ?_ | refine w_sub ?_ | refine w_ono ?_ | refine w_oso ?_ | refine w_slice ?_ | refine w_blt ?_ | refine w_isi ?_
    | refine w_call ?_ | refine w_ckw ?_ | refine w_rvl ?_ | refine w_lrg ?_ | refine w_to ?_ | refine w_ft ?_ | refine w_it ?_ | refine w_rng ?_ | refine w_enu ?_ | refine w_comp ?_
    | refine w_tp ?_ | refine w_tnil ?_ | refine w_tcons ?_
    | refine w_var (d := _) rfl rfl ?_ | refine w_varO (d := _) rfl rfl ?_ | refine w_lnv (d := _) rfl rfl ?_ | refine w_sbv (d0 := _) rfl ?_ | refine w_cio (d0 := _) rfl ?_ | refine w_app (l0 := _) rfl ?_ | refine w_st (d0 := _) rfl ?_ | refine w_retv (d := _) rfl ?_
    | refine w_nm (Nat.le_of_ble_eq_true rfl) ?_
    | refine ex_some (o_add _ _) ?_ | refine ex_some (o_sub _ _) ?_ | refine ex_some rfl ?_ | refine ex_int ?_ | refine ex_lst ?_ | refine ex_sbv rfl rfl rfl ?_ | refine ex_st rfl rfl rfl ?_
    | (refine ⟨(Nat.le_of_ble_eq_true rfl : _ ≤ lim), ?_⟩)))
  refine w_cut (fun ρ => ∃ l, ρ = [some (.scr ns), some (.lst true l), none, none, none, none, none, none, none, none] ∧ Bg l) ?_ fun ρ ⟨l1, eρ, g1⟩ => ?_
  · refine w_for ?_
    (repeat (first
      | refine w_bcons ?_ | refine w_asg ?_ | refine w_par ?_ | refine w_exp ?_ | refine w_ife ?_ | refine w_ret ?_ | refine w_bnil ?_ | refine w_brk ?_ | refine w_cnt ?_
      | refine w_con ?_ | refine w_bin ?_ | refine w_neg ?_ | refine w_not ?_ | refine w_and ?_ | refine w_or ?_ | refine w_ifx ?_ | refine w_cmp ?_ | refine w_chain ?_
      | refine w_anil ?_ | refine w_acons ?_ | refine w_tup ?_ | refine w_lst ?_ | refine w_sub ?_ | refine w_ono ?_ | refine w_oso ?_ | refine w_slice ?_ | refine w_blt ?_ | refine w_isi ?_
      | refine w_call ?_ | refine w_ckw ?_ | refine w_rvl ?_ | refine w_lrg ?_ | refine w_to ?_ | refine w_ft ?_ | refine w_it ?_ | refine w_rng ?_ | refine w_enu ?_ | refine w_comp ?_
      | refine w_tp ?_ | refine w_tnil ?_ | refine w_tcons ?_
      | refine w_var (d := _) rfl rfl ?_ | refine w_varO (d := _) rfl rfl ?_ | refine w_lnv (d := _) rfl rfl ?_ | refine w_sbv (d0 := _) rfl ?_ | refine w_cio (d0 := _) rfl ?_ | refine w_app (l0 := _) rfl ?_ | refine w_st (d0 := _) rfl ?_ | refine w_retv (d := _) rfl ?_
      | refine w_nm (Nat.le_of_ble_eq_true rfl) ?_
      | refine ex_some (o_add _ _) ?_ | refine ex_some (o_sub _ _) ?_ | refine ex_some rfl ?_ | refine ex_int ?_ | refine ex_lst ?_ | refine ex_sbv rfl rfl rfl ?_ | refine ex_st rfl rfl rfl ?_
      | (refine ⟨(Nat.le_of_ble_eq_true rfl : _ ≤ lim), ?_⟩)))
    refine ⟨by decide, ?_⟩
    refine ⟨fun k ρ => ∃ l y2 y3 y4 y5 y6 y7, ρ = [some (.scr ns), some (.lst true l), y2, y3, y4, y5, y6, y7, none, none] ∧ Bg l, ⟨l0, _, _, _, _, _, _, rfl, g0⟩, fun k d ρ hdk ⟨l1, y2, y3, y4, y5, y6, y7, eρ, g1⟩ => ?_, fun ρ ⟨l1, y2, y3, y4, y5, y6, y7, eρ, g1⟩ => ?_⟩
    · subst eρ
      obtain ⟨hk, rfl⟩ := intsD_get hdk
      generalize (0 + (k : Int)) = t
      refine w_nm (Nat.le_of_ble_eq_true rfl) ?_
      show wB C _ [some (.scr ns), some (.lst true l1), some (.int t), none, none, none, none, none, none, none] _
      (repeat (first
        | refine w_bcons ?_ | refine w_asg ?_ | refine w_par ?_ | refine w_exp ?_ | refine w_ife ?_ | refine w_ret ?_ | refine w_bnil ?_ | refine w_brk ?_ | refine w_cnt ?_
        | refine w_con ?_ | refine w_bin ?_ | refine w_neg ?_ | refine w_not ?_ | refine w_and ?_ | refine w_or ?_ | refine w_ifx ?_ | refine w_cmp ?_ | refine w_chain ?_
        | refine w_anil ?_ | refine w_acons ?_ | refine w_tup ?_ | refine w_lst ?_ | refine w_sub ?_ | refine w_ono ?_ | refine w_oso ?_ | refine w_slice ?_ | refine w_blt ?_ | refine w_isi ?_
        | refine w_call ?_ | refine w_ckw ?_ | refine w_rvl ?_ | refine w_lrg ?_ | refine w_to ?_ | refine w_ft ?_ | refine w_it ?_ | refine w_rng ?_ | refine w_enu ?_ | refine w_comp ?_
        | refine w_tp ?_ | refine w_tnil ?_ | refine w_tcons ?_
        | refine w_var (d := _) rfl rfl ?_ | refine w_varO (d := _) rfl rfl ?_ | refine w_lnv (d := _) rfl rfl ?_ | refine w_sbv (d0 := _) rfl ?_ | refine w_cio (d0 := _) rfl ?_ | refine w_app (l0 := _) rfl ?_ | refine w_st (d0 := _) rfl ?_ | refine w_retv (d := _) rfl ?_
        | refine w_nm (Nat.le_of_ble_eq_true rfl) ?_
        | refine ex_some (o_add _ _) ?_ | refine ex_some (o_sub _ _) ?_ | refine ex_some rfl ?_ | refine ex_int ?_ | refine ex_lst ?_ | refine ex_sbv rfl rfl rfl ?_ | refine ex_st rfl rfl rfl ?_
        | (refine ⟨(Nat.le_of_ble_eq_true rfl : _ ≤ lim), ?_⟩)))
      obtain ⟨p, c, n, l2, e2, hp, c1, cp, n1, n2, g2⟩ := hSe t g1
      refine ⟨_, _, _, rfl, e2, ?_⟩
      have h := hp.pc c1 cp
      have h1 : PC p 1 := hp.pc (by decide) (by omega)
      (repeat (first
        | refine w_bcons ?_ | refine w_asg ?_ | refine w_par ?_ | refine w_exp ?_ | refine w_ife ?_ | refine w_ret ?_ | refine w_bnil ?_ | refine w_brk ?_ | refine w_cnt ?_
        | refine w_con ?_ | refine w_bin ?_ | refine w_neg ?_ | refine w_not ?_ | refine w_and ?_ | refine w_or ?_ | refine w_ifx ?_ | refine w_cmp ?_ | refine w_chain ?_
        | refine w_anil ?_ | refine w_acons ?_ | refine w_tup ?_ | refine w_lst ?_ | refine w_sub ?_ | refine w_ono ?_ | refine w_oso ?_ | refine w_slice ?_ | refine w_blt ?_ | refine w_isi ?_
        | refine w_call ?_ | refine w_ckw ?_ | refine w_rvl ?_ | refine w_lrg ?_ | refine w_to ?_ | refine w_ft ?_ | refine w_it ?_ | refine w_rng ?_ | refine w_enu ?_ | refine w_comp ?_
        | refine w_tp ?_ | refine w_tnil ?_ | refine w_tcons ?_
        | refine w_var (d := _) rfl rfl ?_ | refine w_varO (d := _) rfl rfl ?_ | refine w_lnv (d := _) rfl rfl ?_ | refine w_sbv (d0 := _) rfl ?_ | refine w_cio (d0 := _) rfl ?_ | refine w_app (l0 := _) rfl ?_ | refine w_st (d0 := _) rfl ?_ | refine w_retv (d := _) rfl ?_
        | refine w_nm (Nat.le_of_ble_eq_true rfl) ?_
        | refine ex_some (o_add _ _) ?_ | refine ex_some (o_sub _ _) ?_ | refine ex_some rfl ?_ | refine ex_int ?_ | refine ex_lst ?_ | refine ex_sbv rfl rfl rfl ?_ | refine ex_st rfl rfl rfl ?_
        | (refine ⟨(Nat.le_of_ble_eq_true rfl : _ ≤ lim), ?_⟩)))
      obtain ⟨row, l3, e3, hr, g3⟩ := hOw h n1 n2 g2
      refine ⟨_, _, _, rfl, e3, ?_⟩
      refine w_nm (Nat.le_of_ble_eq_true rfl) ?_
      refine w_then (fun ρ => ∃ l row, ρ = [some (.scr ns), some (.lst true l), some (.int t), some (.int p), some (.int n), some (.int c), some (iT row), none, none, none] ∧ Bg l ∧ Row p n row) ?_ fun ρ ⟨l4, row, eρ, g4, hr⟩ => ?_
      · refine w_ife ?_
        (repeat (first
          | refine w_bcons ?_ | refine w_asg ?_ | refine w_par ?_ | refine w_exp ?_ | refine w_ife ?_ | refine w_ret ?_ | refine w_bnil ?_ | refine w_brk ?_ | refine w_cnt ?_
          | refine w_con ?_ | refine w_bin ?_ | refine w_neg ?_ | refine w_not ?_ | refine w_and ?_ | refine w_or ?_ | refine w_ifx ?_ | refine w_cmp ?_ | refine w_chain ?_
          | refine w_anil ?_ | refine w_acons ?_ | refine w_tup ?_ | refine w_lst ?_ | refine w_sub ?_ | refine w_ono ?_ | refine w_oso ?_ | refine w_slice ?_ | refine w_blt ?_ | refine w_isi ?_
          | refine w_call ?_ | refine w_ckw ?_ | refine w_rvl ?_ | refine w_lrg ?_ | refine w_to ?_ | refine w_ft ?_ | refine w_it ?_ | refine w_rng ?_ | refine w_enu ?_ | refine w_comp ?_
          | refine w_tp ?_ | refine w_tnil ?_ | refine w_tcons ?_
          | refine w_var (d := _) rfl rfl ?_ | refine w_varO (d := _) rfl rfl ?_ | refine w_lnv (d := _) rfl rfl ?_ | refine w_sbv (d0 := _) rfl ?_ | refine w_cio (d0 := _) rfl ?_ | refine w_app (l0 := _) rfl ?_ | refine w_st (d0 := _) rfl ?_ | refine w_retv (d := _) rfl ?_
          | refine w_nm (Nat.le_of_ble_eq_true rfl) ?_
          | refine ex_some (o_add _ _) ?_ | refine ex_some (o_sub _ _) ?_ | refine ex_some rfl ?_ | refine ex_int ?_ | refine ex_lst ?_ | refine ex_sbv rfl rfl rfl ?_ | refine ex_st rfl rfl rfl ?_
          | (refine ⟨(Nat.le_of_ble_eq_true rfl : _ ≤ lim), ?_⟩)))
        refine ⟨_, rfl, fun _ => ?_, fun _ => ?_⟩
        · (repeat (first
            | refine w_bcons ?_ | refine w_asg ?_ | refine w_par ?_ | refine w_exp ?_ | refine w_ife ?_ | refine w_ret ?_ | refine w_bnil ?_ | refine w_brk ?_ | refine w_cnt ?_
            | refine w_con ?_ | refine w_bin ?_ | refine w_neg ?_ | refine w_not ?_ | refine w_and ?_ | refine w_or ?_ | refine w_ifx ?_ | refine w_cmp ?_ | refine w_chain ?_
            | refine w_anil ?_ | refine w_acons ?_ | refine w_tup ?_ | refine w_lst ?_ | refine w_sub ?_ | refine w_ono ?_ | refine w_oso ?_ | refine w_slice ?_ | refine w_blt ?_ | refine w_isi ?_
            | refine w_call ?_ | refine w_ckw ?_ | refine w_rvl ?_ | refine w_lrg ?_ | refine w_to ?_ | refine w_ft ?_ | refine w_it ?_ | refine w_rng ?_ | refine w_enu ?_ | refine w_comp ?_
            | refine w_tp ?_ | refine w_tnil ?_ | refine w_tcons ?_
            | refine w_var (d := _) rfl rfl ?_ | refine w_varO (d := _) rfl rfl ?_ | refine w_lnv (d := _) rfl rfl ?_ | refine w_sbv (d0 := _) rfl ?_ | refine w_cio (d0 := _) rfl ?_ | refine w_app (l0 := _) rfl ?_ | refine w_st (d0 := _) rfl ?_ | refine w_retv (d := _) rfl ?_
            | refine w_nm (Nat.le_of_ble_eq_true rfl) ?_
            | refine ex_some (o_add _ _) ?_ | refine ex_some (o_sub _ _) ?_ | refine ex_some rfl ?_ | refine ex_int ?_ | refine ex_lst ?_ | refine ex_sbv rfl rfl rfl ?_ | refine ex_st rfl rfl rfl ?_
            | (refine ⟨(Nat.le_of_ble_eq_true rfl : _ ≤ lim), ?_⟩)))
          obtain ⟨row2, l4, e4, hr2, g4⟩ := hSh h n1 n2 g3
          refine ⟨_, _, _, rfl, e4, ?_⟩
          (repeat (first
            | refine w_bcons ?_ | refine w_asg ?_ | refine w_par ?_ | refine w_exp ?_ | refine w_ife ?_ | refine w_ret ?_ | refine w_bnil ?_ | refine w_brk ?_ | refine w_cnt ?_
            | refine w_con ?_ | refine w_bin ?_ | refine w_neg ?_ | refine w_not ?_ | refine w_and ?_ | refine w_or ?_ | refine w_ifx ?_ | refine w_cmp ?_ | refine w_chain ?_
            | refine w_anil ?_ | refine w_acons ?_ | refine w_tup ?_ | refine w_lst ?_ | refine w_sub ?_ | refine w_ono ?_ | refine w_oso ?_ | refine w_slice ?_ | refine w_blt ?_ | refine w_isi ?_
            | refine w_call ?_ | refine w_ckw ?_ | refine w_rvl ?_ | refine w_lrg ?_ | refine w_to ?_ | refine w_ft ?_ | refine w_it ?_ | refine w_rng ?_ | refine w_enu ?_ | refine w_comp ?_
            | refine w_tp ?_ | refine w_tnil ?_ | refine w_tcons ?_
            | refine w_var (d := _) rfl rfl ?_ | refine w_varO (d := _) rfl rfl ?_ | refine w_lnv (d := _) rfl rfl ?_ | refine w_sbv (d0 := _) rfl ?_ | refine w_cio (d0 := _) rfl ?_ | refine w_app (l0 := _) rfl ?_ | refine w_st (d0 := _) rfl ?_ | refine w_retv (d := _) rfl ?_
            | refine w_nm (Nat.le_of_ble_eq_true rfl) ?_
            | refine ex_some (o_add _ _) ?_ | refine ex_some (o_sub _ _) ?_ | refine ex_some rfl ?_ | refine ex_int ?_ | refine ex_lst ?_ | refine ex_sbv rfl rfl rfl ?_ | refine ex_st rfl rfl rfl ?_
            | (refine ⟨(Nat.le_of_ble_eq_true rfl : _ ≤ lim), ?_⟩)))
          exact ⟨rfl, l4, row2, rfl, g4, hr2⟩
        · exact w_bnil ⟨rfl, l3, row, rfl, g3, hr⟩
      · subst eρ
        have hlr := hr.len
        have hn : 0 < row.length := by omega
        have hn2 : row.length ≤ 16 := by omega
        obtain ⟨g, pr⟩ := per_ex h hr hn
        (repeat (first
          | refine w_bcons ?_ | refine w_asg ?_ | refine w_par ?_ | refine w_exp ?_ | refine w_ife ?_ | refine w_ret ?_ | refine w_bnil ?_ | refine w_brk ?_ | refine w_cnt ?_
          | refine w_con ?_ | refine w_bin ?_ | refine w_neg ?_ | refine w_not ?_ | refine w_and ?_ | refine w_or ?_ | refine w_ifx ?_ | refine w_cmp ?_ | refine w_chain ?_
          | refine w_anil ?_ | refine w_acons ?_ | refine w_tup ?_ | refine w_lst ?_ | refine w_sub ?_ | refine w_ono ?_ | refine w_oso ?_ | refine w_slice ?_ | refine w_blt ?_ | refine w_isi ?_
          | refine w_call ?_ | refine w_ckw ?_ | refine w_rvl ?_ | refine w_lrg ?_ | refine w_to ?_ | refine w_ft ?_ | refine w_it ?_ | refine w_rng ?_ | refine w_enu ?_ | refine w_comp ?_
          | refine w_tp ?_ | refine w_tnil ?_ | refine w_tcons ?_
          | refine w_var (d := _) rfl rfl ?_ | refine w_varO (d := _) rfl rfl ?_ | refine w_lnv (d := _) rfl rfl ?_ | refine w_sbv (d0 := _) rfl ?_ | refine w_cio (d0 := _) rfl ?_ | refine w_app (l0 := _) rfl ?_ | refine w_st (d0 := _) rfl ?_ | refine w_retv (d := _) rfl ?_
          | refine w_nm (Nat.le_of_ble_eq_true rfl) ?_
          | refine ex_some (o_add _ _) ?_ | refine ex_some (o_sub _ _) ?_ | refine ex_some rfl ?_ | refine ex_int ?_ | refine ex_lst ?_ | refine ex_sbv rfl rfl rfl ?_ | refine ex_st rfl rfl rfl ?_
          | (refine ⟨(Nat.le_of_ble_eq_true rfl : _ ≤ lim), ?_⟩)))
        refine ⟨_, A.lp h hr hn hn2 pr, ?_⟩
        (repeat (first
          | refine w_bcons ?_ | refine w_asg ?_ | refine w_par ?_ | refine w_exp ?_ | refine w_ife ?_ | refine w_ret ?_ | refine w_bnil ?_ | refine w_brk ?_ | refine w_cnt ?_
          | refine w_con ?_ | refine w_bin ?_ | refine w_neg ?_ | refine w_not ?_ | refine w_and ?_ | refine w_or ?_ | refine w_ifx ?_ | refine w_cmp ?_ | refine w_chain ?_
          | refine w_anil ?_ | refine w_acons ?_ | refine w_tup ?_ | refine w_lst ?_ | refine w_sub ?_ | refine w_ono ?_ | refine w_oso ?_ | refine w_slice ?_ | refine w_blt ?_ | refine w_isi ?_
          | refine w_call ?_ | refine w_ckw ?_ | refine w_rvl ?_ | refine w_lrg ?_ | refine w_to ?_ | refine w_ft ?_ | refine w_it ?_ | refine w_rng ?_ | refine w_enu ?_ | refine w_comp ?_
          | refine w_tp ?_ | refine w_tnil ?_ | refine w_tcons ?_
          | refine w_var (d := _) rfl rfl ?_ | refine w_varO (d := _) rfl rfl ?_ | refine w_lnv (d := _) rfl rfl ?_ | refine w_sbv (d0 := _) rfl ?_ | refine w_cio (d0 := _) rfl ?_ | refine w_app (l0 := _) rfl ?_ | refine w_st (d0 := _) rfl ?_ | refine w_retv (d := _) rfl ?_
          | refine w_nm (Nat.le_of_ble_eq_true rfl) ?_
          | refine ex_some (o_add _ _) ?_ | refine ex_some (o_sub _ _) ?_ | refine ex_some rfl ?_ | refine ex_int ?_ | refine ex_lst ?_ | refine ex_sbv rfl rfl rfl ?_ | refine ex_st rfl rfl rfl ?_
          | (refine ⟨(Nat.le_of_ble_eq_true rfl : _ ≤ lim), ?_⟩)))
        refine ⟨_, hWr h (by omega) (by omega), ?_⟩
        refine ex_bl ?_
        refine ex_not rfl ?_
        (repeat (first
          | refine w_bcons ?_ | refine w_asg ?_ | refine w_par ?_ | refine w_exp ?_ | refine w_ife ?_ | refine w_ret ?_ | refine w_bnil ?_ | refine w_brk ?_ | refine w_cnt ?_
          | refine w_con ?_ | refine w_bin ?_ | refine w_neg ?_ | refine w_not ?_ | refine w_and ?_ | refine w_or ?_ | refine w_ifx ?_ | refine w_cmp ?_ | refine w_chain ?_
          | refine w_anil ?_ | refine w_acons ?_ | refine w_tup ?_ | refine w_lst ?_ | refine w_sub ?_ | refine w_ono ?_ | refine w_oso ?_ | refine w_slice ?_ | refine w_blt ?_ | refine w_isi ?_
          | refine w_call ?_ | refine w_ckw ?_ | refine w_rvl ?_ | refine w_lrg ?_ | refine w_to ?_ | refine w_ft ?_ | refine w_it ?_ | refine w_rng ?_ | refine w_enu ?_ | refine w_comp ?_
          | refine w_tp ?_ | refine w_tnil ?_ | refine w_tcons ?_
          | refine w_var (d := _) rfl rfl ?_ | refine w_varO (d := _) rfl rfl ?_ | refine w_lnv (d := _) rfl rfl ?_ | refine w_sbv (d0 := _) rfl ?_ | refine w_cio (d0 := _) rfl ?_ | refine w_app (l0 := _) rfl ?_ | refine w_st (d0 := _) rfl ?_ | refine w_retv (d := _) rfl ?_
          | refine w_nm (Nat.le_of_ble_eq_true rfl) ?_
          | refine ex_some (o_add _ _) ?_ | refine ex_some (o_sub _ _) ?_ | refine ex_some rfl ?_ | refine ex_int ?_ | refine ex_lst ?_ | refine ex_sbv rfl rfl rfl ?_ | refine ex_st rfl rfl rfl ?_
          | (refine ⟨(Nat.le_of_ble_eq_true rfl : _ ≤ lim), ?_⟩)))
        obtain ⟨l5, e5, g5⟩ := hTu g4 h hr hn hn2 pr
        refine ⟨_, _, _, rfl, e5, ?_⟩
        refine ex_bl ?_
        refine ex_not rfl ?_
        (repeat (first
          | refine w_bcons ?_ | refine w_asg ?_ | refine w_par ?_ | refine w_exp ?_ | refine w_ife ?_ | refine w_ret ?_ | refine w_bnil ?_ | refine w_brk ?_ | refine w_cnt ?_
          | refine w_con ?_ | refine w_bin ?_ | refine w_neg ?_ | refine w_not ?_ | refine w_and ?_ | refine w_or ?_ | refine w_ifx ?_ | refine w_cmp ?_ | refine w_chain ?_
          | refine w_anil ?_ | refine w_acons ?_ | refine w_tup ?_ | refine w_lst ?_ | refine w_sub ?_ | refine w_ono ?_ | refine w_oso ?_ | refine w_slice ?_ | refine w_blt ?_ | refine w_isi ?_
          | refine w_call ?_ | refine w_ckw ?_ | refine w_rvl ?_ | refine w_lrg ?_ | refine w_to ?_ | refine w_ft ?_ | refine w_it ?_ | refine w_rng ?_ | refine w_enu ?_ | refine w_comp ?_
          | refine w_tp ?_ | refine w_tnil ?_ | refine w_tcons ?_
          | refine w_var (d := _) rfl rfl ?_ | refine w_varO (d := _) rfl rfl ?_ | refine w_lnv (d := _) rfl rfl ?_ | refine w_sbv (d0 := _) rfl ?_ | refine w_cio (d0 := _) rfl ?_ | refine w_app (l0 := _) rfl ?_ | refine w_st (d0 := _) rfl ?_ | refine w_retv (d := _) rfl ?_
          | refine w_nm (Nat.le_of_ble_eq_true rfl) ?_
          | refine ex_some (o_add _ _) ?_ | refine ex_some (o_sub _ _) ?_ | refine ex_some rfl ?_ | refine ex_int ?_ | refine ex_lst ?_ | refine ex_sbv rfl rfl rfl ?_ | refine ex_st rfl rfl rfl ?_
          | (refine ⟨(Nat.le_of_ble_eq_true rfl : _ ≤ lim), ?_⟩)))
        obtain ⟨l6, e6, g6⟩ := hPe g5 h hr hn hn2 pr
        refine ⟨_, _, _, rfl, e6, ?_⟩
        refine ex_bl ?_
        refine ex_not rfl ?_
        (repeat (first
          | refine w_bcons ?_ | refine w_asg ?_ | refine w_par ?_ | refine w_exp ?_ | refine w_ife ?_ | refine w_ret ?_ | refine w_bnil ?_ | refine w_brk ?_ | refine w_cnt ?_
          | refine w_con ?_ | refine w_bin ?_ | refine w_neg ?_ | refine w_not ?_ | refine w_and ?_ | refine w_or ?_ | refine w_ifx ?_ | refine w_cmp ?_ | refine w_chain ?_
          | refine w_anil ?_ | refine w_acons ?_ | refine w_tup ?_ | refine w_lst ?_ | refine w_sub ?_ | refine w_ono ?_ | refine w_oso ?_ | refine w_slice ?_ | refine w_blt ?_ | refine w_isi ?_
          | refine w_call ?_ | refine w_ckw ?_ | refine w_rvl ?_ | refine w_lrg ?_ | refine w_to ?_ | refine w_ft ?_ | refine w_it ?_ | refine w_rng ?_ | refine w_enu ?_ | refine w_comp ?_
          | refine w_tp ?_ | refine w_tnil ?_ | refine w_tcons ?_
          | refine w_var (d := _) rfl rfl ?_ | refine w_varO (d := _) rfl rfl ?_ | refine w_lnv (d := _) rfl rfl ?_ | refine w_sbv (d0 := _) rfl ?_ | refine w_cio (d0 := _) rfl ?_ | refine w_app (l0 := _) rfl ?_ | refine w_st (d0 := _) rfl ?_ | refine w_retv (d := _) rfl ?_
          | refine w_nm (Nat.le_of_ble_eq_true rfl) ?_
          | refine ex_some (o_add _ _) ?_ | refine ex_some (o_sub _ _) ?_ | refine ex_some rfl ?_ | refine ex_int ?_ | refine ex_lst ?_ | refine ex_sbv rfl rfl rfl ?_ | refine ex_st rfl rfl rfl ?_
          | (refine ⟨(Nat.le_of_ble_eq_true rfl : _ ≤ lim), ?_⟩)))
        refine ex_dec (fun _ => ?_) (fun _ => ?_)
        · (repeat (first
            | refine w_bcons ?_ | refine w_asg ?_ | refine w_par ?_ | refine w_exp ?_ | refine w_ife ?_ | refine w_ret ?_ | refine w_bnil ?_ | refine w_brk ?_ | refine w_cnt ?_
            | refine w_con ?_ | refine w_bin ?_ | refine w_neg ?_ | refine w_not ?_ | refine w_and ?_ | refine w_or ?_ | refine w_ifx ?_ | refine w_cmp ?_ | refine w_chain ?_
            | refine w_anil ?_ | refine w_acons ?_ | refine w_tup ?_ | refine w_lst ?_ | refine w_sub ?_ | refine w_ono ?_ | refine w_oso ?_ | refine w_slice ?_ | refine w_blt ?_ | refine w_isi ?_
            | refine w_call ?_ | refine w_ckw ?_ | refine w_rvl ?_ | refine w_lrg ?_ | refine w_to ?_ | refine w_ft ?_ | refine w_it ?_ | refine w_rng ?_ | refine w_enu ?_ | refine w_comp ?_
            | refine w_tp ?_ | refine w_tnil ?_ | refine w_tcons ?_
            | refine w_var (d := _) rfl rfl ?_ | refine w_varO (d := _) rfl rfl ?_ | refine w_lnv (d := _) rfl rfl ?_ | refine w_sbv (d0 := _) rfl ?_ | refine w_cio (d0 := _) rfl ?_ | refine w_app (l0 := _) rfl ?_ | refine w_st (d0 := _) rfl ?_ | refine w_retv (d := _) rfl ?_
            | refine w_nm (Nat.le_of_ble_eq_true rfl) ?_
            | refine ex_some (o_add _ _) ?_ | refine ex_some (o_sub _ _) ?_ | refine ex_some rfl ?_ | refine ex_int ?_ | refine ex_lst ?_ | refine ex_sbv rfl rfl rfl ?_ | refine ex_st rfl rfl rfl ?_
            | (refine ⟨(Nat.le_of_ble_eq_true rfl : _ ≤ lim), ?_⟩)))
          obtain ⟨l7, e7, g7⟩ := hPl g6 h1 hr hn hn2
          refine ⟨_, _, _, rfl, e7, ?_⟩
          refine ex_bl ?_
          refine ex_not rfl ?_
          (repeat (first
            | refine w_bcons ?_ | refine w_asg ?_ | refine w_par ?_ | refine w_exp ?_ | refine w_ife ?_ | refine w_ret ?_ | refine w_bnil ?_ | refine w_brk ?_ | refine w_cnt ?_
            | refine w_con ?_ | refine w_bin ?_ | refine w_neg ?_ | refine w_not ?_ | refine w_and ?_ | refine w_or ?_ | refine w_ifx ?_ | refine w_cmp ?_ | refine w_chain ?_
            | refine w_anil ?_ | refine w_acons ?_ | refine w_tup ?_ | refine w_lst ?_ | refine w_sub ?_ | refine w_ono ?_ | refine w_oso ?_ | refine w_slice ?_ | refine w_blt ?_ | refine w_isi ?_
            | refine w_call ?_ | refine w_ckw ?_ | refine w_rvl ?_ | refine w_lrg ?_ | refine w_to ?_ | refine w_ft ?_ | refine w_it ?_ | refine w_rng ?_ | refine w_enu ?_ | refine w_comp ?_
            | refine w_tp ?_ | refine w_tnil ?_ | refine w_tcons ?_
            | refine w_var (d := _) rfl rfl ?_ | refine w_varO (d := _) rfl rfl ?_ | refine w_lnv (d := _) rfl rfl ?_ | refine w_sbv (d0 := _) rfl ?_ | refine w_cio (d0 := _) rfl ?_ | refine w_app (l0 := _) rfl ?_ | refine w_st (d0 := _) rfl ?_ | refine w_retv (d := _) rfl ?_
            | refine w_nm (Nat.le_of_ble_eq_true rfl) ?_
            | refine ex_some (o_add _ _) ?_ | refine ex_some (o_sub _ _) ?_ | refine ex_some rfl ?_ | refine ex_int ?_ | refine ex_lst ?_ | refine ex_sbv rfl rfl rfl ?_ | refine ex_st rfl rfl rfl ?_
            | (refine ⟨(Nat.le_of_ble_eq_true rfl : _ ≤ lim), ?_⟩)))
          exact ⟨l7, _, _, _, _, _, _, rfl, g7⟩
        · refine ex_not rfl ?_
          (repeat (first
            | refine w_bcons ?_ | refine w_asg ?_ | refine w_par ?_ | refine w_exp ?_ | refine w_ife ?_ | refine w_ret ?_ | refine w_bnil ?_ | refine w_brk ?_ | refine w_cnt ?_
            | refine w_con ?_ | refine w_bin ?_ | refine w_neg ?_ | refine w_not ?_ | refine w_and ?_ | refine w_or ?_ | refine w_ifx ?_ | refine w_cmp ?_ | refine w_chain ?_
            | refine w_anil ?_ | refine w_acons ?_ | refine w_tup ?_ | refine w_lst ?_ | refine w_sub ?_ | refine w_ono ?_ | refine w_oso ?_ | refine w_slice ?_ | refine w_blt ?_ | refine w_isi ?_
            | refine w_call ?_ | refine w_ckw ?_ | refine w_rvl ?_ | refine w_lrg ?_ | refine w_to ?_ | refine w_ft ?_ | refine w_it ?_ | refine w_rng ?_ | refine w_enu ?_ | refine w_comp ?_
            | refine w_tp ?_ | refine w_tnil ?_ | refine w_tcons ?_
            | refine w_var (d := _) rfl rfl ?_ | refine w_varO (d := _) rfl rfl ?_ | refine w_lnv (d := _) rfl rfl ?_ | refine w_sbv (d0 := _) rfl ?_ | refine w_cio (d0 := _) rfl ?_ | refine w_app (l0 := _) rfl ?_ | refine w_st (d0 := _) rfl ?_ | refine w_retv (d := _) rfl ?_
            | refine w_nm (Nat.le_of_ble_eq_true rfl) ?_
            | refine ex_some (o_add _ _) ?_ | refine ex_some (o_sub _ _) ?_ | refine ex_some rfl ?_ | refine ex_int ?_ | refine ex_lst ?_ | refine ex_sbv rfl rfl rfl ?_ | refine ex_st rfl rfl rfl ?_
            | (refine ⟨(Nat.le_of_ble_eq_true rfl : _ ≤ lim), ?_⟩)))
          exact ⟨l6, _, _, _, _, _, _, rfl, g6⟩
    · subst eρ
      exact ⟨rfl, l1, rfl, g1⟩
  · subst eρ
    (repeat (first
      | refine w_bcons ?_ | refine w_asg ?_ | refine w_par ?_ | refine w_exp ?_ | refine w_ife ?_ | refine w_ret ?_ | refine w_bnil ?_ | refine w_brk ?_ | refine w_cnt ?_
      | refine w_con ?_ | refine w_bin ?_ | refine w_neg ?_ | refine w_not ?_ | refine w_and ?_ | refine w_or ?_ | refine w_ifx ?_ | refine w_cmp ?_ | refine w_chain ?_
      | refine w_anil ?_ | refine w_acons ?_ | refine w_tup ?_ | refine w_lst ?_ | refine w_sub ?_ | refine w_ono ?_ | refine w_oso ?_ | refine w_slice ?_ | refine w_blt ?_ | refine w_isi ?_
      | refine w_call ?_ | refine w_ckw ?_ | refine w_rvl ?_ | refine w_lrg ?_ | refine w_to ?_ | refine w_ft ?_ | refine w_it ?_ | refine w_rng ?_ | refine w_enu ?_ | refine w_comp ?_
      | refine w_tp ?_ | refine w_tnil ?_ | refine w_tcons ?_
      | refine w_var (d := _) rfl rfl ?_ | refine w_varO (d := _) rfl rfl ?_ | refine w_lnv (d := _) rfl rfl ?_ | refine w_sbv (d0 := _) rfl ?_ | refine w_cio (d0 := _) rfl ?_ | refine w_app (l0 := _) rfl ?_ | refine w_st (d0 := _) rfl ?_ | refine w_retv (d := _) rfl ?_
      | refine w_nm (Nat.le_of_ble_eq_true rfl) ?_
      | refine ex_some (o_add _ _) ?_ | refine ex_some (o_sub _ _) ?_ | refine ex_some rfl ?_ | refine ex_int ?_ | refine ex_lst ?_ | refine ex_sbv rfl rfl rfl ?_ | refine ex_st rfl rfl rfl ?_
      | (refine ⟨(Nat.le_of_ble_eq_true rfl : _ ≤ lim), ?_⟩)))
    refine w_cut (fun ρ => ∃ y, ρ = [some (.scr ns), some (.lst true l1), none, none, none, none, none, none, y, none]) ?_ fun ρ ⟨y, eρ⟩ => ?_
    · refine w_for ?_
      (repeat (first
        | refine w_bcons ?_ | refine w_asg ?_ | refine w_par ?_ | refine w_exp ?_ | refine w_ife ?_ | refine w_ret ?_ | refine w_bnil ?_ | refine w_brk ?_ | refine w_cnt ?_
        | refine w_con ?_ | refine w_bin ?_ | refine w_neg ?_ | refine w_not ?_ | refine w_and ?_ | refine w_or ?_ | refine w_ifx ?_ | refine w_cmp ?_ | refine w_chain ?_
        | refine w_anil ?_ | refine w_acons ?_ | refine w_tup ?_ | refine w_lst ?_ | refine w_sub ?_ | refine w_ono ?_ | refine w_oso ?_ | refine w_slice ?_ | refine w_blt ?_ | refine w_isi ?_
        | refine w_call ?_ | refine w_ckw ?_ | refine w_rvl ?_ | refine w_lrg ?_ | refine w_to ?_ | refine w_ft ?_ | refine w_it ?_ | refine w_rng ?_ | refine w_enu ?_ | refine w_comp ?_
        | refine w_tp ?_ | refine w_tnil ?_ | refine w_tcons ?_
        | refine w_var (d := _) rfl rfl ?_ | refine w_varO (d := _) rfl rfl ?_ | refine w_lnv (d := _) rfl rfl ?_ | refine w_sbv (d0 := _) rfl ?_ | refine w_cio (d0 := _) rfl ?_ | refine w_app (l0 := _) rfl ?_ | refine w_st (d0 := _) rfl ?_ | refine w_retv (d := _) rfl ?_
        | refine w_nm (Nat.le_of_ble_eq_true rfl) ?_
        | refine ex_some (o_add _ _) ?_ | refine ex_some (o_sub _ _) ?_ | refine ex_some rfl ?_ | refine ex_int ?_ | refine ex_lst ?_ | refine ex_sbv rfl rfl rfl ?_ | refine ex_st rfl rfl rfl ?_
        | (refine ⟨(Nat.le_of_ble_eq_true rfl : _ ≤ lim), ?_⟩)))
      refine ⟨fun k ρ => ∃ y3 y5 y6 y8 y9, ρ = [some (.scr ns), some (.lst true l1), none, y3, none, y5, y6, none, some y8, y9], ⟨none, none, none, _, none, rfl⟩, fun k d ρ hdk ⟨y3, y5, y6, y8, y9, eρ⟩ => ?_, fun ρ ⟨y3, y5, y6, y8, y9, eρ⟩ => ?_⟩
      · subst eρ
        have hd : ∃ (p c : Int) (row : List Int) (g : Int), d = .tup [.tup [.int p, .int c, iT row], .int g] ∧ Sm g ∧ C 5 [.int p, .int c, iT row] = some (.int g, []) ∧ C 18 [.int p, .int c, iT row] = some (.int g, []) := by
          have hm := List.mem_of_getElem? hdk
          have hm : d ∈ [D.tup [.tup [.int 3, .int 2, iT [1, 2, 0, 1]], .int 8], .tup [.tup [.int 3, .int 2, iT [0, 0, 0, 0]], .int 1], .tup [.tup [.int 5, .int 4, iT [1, 2]], .int 4], .tup [.tup [.int 13, .int 2, iT [5]], .int 12]] := hm
          simp only [List.mem_cons, List.not_mem_nil, or_false] at hm
          rcases hm with rfl | rfl | rfl | rfl
          · exact ⟨_, _, _, _, rfl, sm_of (by decide) (by decide), x1.1, x1.2⟩
          · exact ⟨_, _, _, _, rfl, sm_of (by decide) (by decide), x2.1, x2.2⟩
          · exact ⟨_, _, _, _, rfl, sm_of (by decide) (by decide), x3.1, x3.2⟩
          · exact ⟨_, _, _, _, rfl, sm_of (by decide) (by decide), x4.1, x4.2⟩
        obtain ⟨p, c, row, g, rfl, hg, z1, z2⟩ := hd
        refine w_tp (w_tcons (w_tp (w_tcons (w_nm (Nat.le_of_ble_eq_true rfl) (w_tcons (w_nm (Nat.le_of_ble_eq_true rfl) (w_tcons (w_nm (Nat.le_of_ble_eq_true rfl) (w_tnil (w_tcons (w_nm (Nat.le_of_ble_eq_true rfl) (w_tnil ?_))))))))))))
        show wB C _ [some (.scr ns), some (.lst true l1), none, some (.int p), none, some (.int c), some (iT row), none, some y8, some (.int g)] _
        (repeat (first
          | refine w_bcons ?_ | refine w_asg ?_ | refine w_par ?_ | refine w_exp ?_ | refine w_ife ?_ | refine w_ret ?_ | refine w_bnil ?_ | refine w_brk ?_ | refine w_cnt ?_
          | refine w_con ?_ | refine w_bin ?_ | refine w_neg ?_ | refine w_not ?_ | refine w_and ?_ | refine w_or ?_ | refine w_ifx ?_ | refine w_cmp ?_ | refine w_chain ?_
          | refine w_anil ?_ | refine w_acons ?_ | refine w_tup ?_ | refine w_lst ?_ | refine w_sub ?_ | refine w_ono ?_ | refine w_oso ?_ | refine w_slice ?_ | refine w_blt ?_ | refine w_isi ?_
          | refine w_call ?_ | refine w_ckw ?_ | refine w_rvl ?_ | refine w_lrg ?_ | refine w_to ?_ | refine w_ft ?_ | refine w_it ?_ | refine w_rng ?_ | refine w_enu ?_ | refine w_comp ?_
          | refine w_tp ?_ | refine w_tnil ?_ | refine w_tcons ?_
          | refine w_var (d := _) rfl rfl ?_ | refine w_varO (d := _) rfl rfl ?_ | refine w_lnv (d := _) rfl rfl ?_ | refine w_sbv (d0 := _) rfl ?_ | refine w_cio (d0 := _) rfl ?_ | refine w_app (l0 := _) rfl ?_ | refine w_st (d0 := _) rfl ?_ | refine w_retv (d := _) rfl ?_
          | refine w_nm (Nat.le_of_ble_eq_true rfl) ?_
          | refine ex_some (o_add _ _) ?_ | refine ex_some (o_sub _ _) ?_ | refine ex_some rfl ?_ | refine ex_int ?_ | refine ex_lst ?_ | refine ex_sbv rfl rfl rfl ?_ | refine ex_st rfl rfl rfl ?_
          | (refine ⟨(Nat.le_of_ble_eq_true rfl : _ ≤ lim), ?_⟩)))
        refine ⟨_, z1, ?_⟩
        (repeat (first
          | refine w_bcons ?_ | refine w_asg ?_ | refine w_par ?_ | refine w_exp ?_ | refine w_ife ?_ | refine w_ret ?_ | refine w_bnil ?_ | refine w_brk ?_ | refine w_cnt ?_
          | refine w_con ?_ | refine w_bin ?_ | refine w_neg ?_ | refine w_not ?_ | refine w_and ?_ | refine w_or ?_ | refine w_ifx ?_ | refine w_cmp ?_ | refine w_chain ?_
          | refine w_anil ?_ | refine w_acons ?_ | refine w_tup ?_ | refine w_lst ?_ | refine w_sub ?_ | refine w_ono ?_ | refine w_oso ?_ | refine w_slice ?_ | refine w_blt ?_ | refine w_isi ?_
          | refine w_call ?_ | refine w_ckw ?_ | refine w_rvl ?_ | refine w_lrg ?_ | refine w_to ?_ | refine w_ft ?_ | refine w_it ?_ | refine w_rng ?_ | refine w_enu ?_ | refine w_comp ?_
          | refine w_tp ?_ | refine w_tnil ?_ | refine w_tcons ?_
          | refine w_var (d := _) rfl rfl ?_ | refine w_varO (d := _) rfl rfl ?_ | refine w_lnv (d := _) rfl rfl ?_ | refine w_sbv (d0 := _) rfl ?_ | refine w_cio (d0 := _) rfl ?_ | refine w_app (l0 := _) rfl ?_ | refine w_st (d0 := _) rfl ?_ | refine w_retv (d := _) rfl ?_
          | refine w_nm (Nat.le_of_ble_eq_true rfl) ?_
          | refine ex_some (o_add _ _) ?_ | refine ex_some (o_sub _ _) ?_ | refine ex_some rfl ?_ | refine ex_int ?_ | refine ex_lst ?_ | refine ex_sbv rfl rfl rfl ?_ | refine ex_st rfl rfl rfl ?_
          | (refine ⟨(Nat.le_of_ble_eq_true rfl : _ ≤ lim), ?_⟩)))
        refine ⟨_, A.isn g hg, ?_⟩
        refine ex_bl ?_
        refine ex_not rfl ?_
        (repeat (first
          | refine w_bcons ?_ | refine w_asg ?_ | refine w_par ?_ | refine w_exp ?_ | refine w_ife ?_ | refine w_ret ?_ | refine w_bnil ?_ | refine w_brk ?_ | refine w_cnt ?_
          | refine w_con ?_ | refine w_bin ?_ | refine w_neg ?_ | refine w_not ?_ | refine w_and ?_ | refine w_or ?_ | refine w_ifx ?_ | refine w_cmp ?_ | refine w_chain ?_
          | refine w_anil ?_ | refine w_acons ?_ | refine w_tup ?_ | refine w_lst ?_ | refine w_sub ?_ | refine w_ono ?_ | refine w_oso ?_ | refine w_slice ?_ | refine w_blt ?_ | refine w_isi ?_
          | refine w_call ?_ | refine w_ckw ?_ | refine w_rvl ?_ | refine w_lrg ?_ | refine w_to ?_ | refine w_ft ?_ | refine w_it ?_ | refine w_rng ?_ | refine w_enu ?_ | refine w_comp ?_
          | refine w_tp ?_ | refine w_tnil ?_ | refine w_tcons ?_
          | refine w_var (d := _) rfl rfl ?_ | refine w_varO (d := _) rfl rfl ?_ | refine w_lnv (d := _) rfl rfl ?_ | refine w_sbv (d0 := _) rfl ?_ | refine w_cio (d0 := _) rfl ?_ | refine w_app (l0 := _) rfl ?_ | refine w_st (d0 := _) rfl ?_ | refine w_retv (d := _) rfl ?_
          | refine w_nm (Nat.le_of_ble_eq_true rfl) ?_
          | refine ex_some (o_add _ _) ?_ | refine ex_some (o_sub _ _) ?_ | refine ex_some rfl ?_ | refine ex_int ?_ | refine ex_lst ?_ | refine ex_sbv rfl rfl rfl ?_ | refine ex_st rfl rfl rfl ?_
          | (refine ⟨(Nat.le_of_ble_eq_true rfl : _ ≤ lim), ?_⟩)))
        refine ⟨_, z2, ?_⟩
        (repeat (first
          | refine w_bcons ?_ | refine w_asg ?_ | refine w_par ?_ | refine w_exp ?_ | refine w_ife ?_ | refine w_ret ?_ | refine w_bnil ?_ | refine w_brk ?_ | refine w_cnt ?_
          | refine w_con ?_ | refine w_bin ?_ | refine w_neg ?_ | refine w_not ?_ | refine w_and ?_ | refine w_or ?_ | refine w_ifx ?_ | refine w_cmp ?_ | refine w_chain ?_
          | refine w_anil ?_ | refine w_acons ?_ | refine w_tup ?_ | refine w_lst ?_ | refine w_sub ?_ | refine w_ono ?_ | refine w_oso ?_ | refine w_slice ?_ | refine w_blt ?_ | refine w_isi ?_
          | refine w_call ?_ | refine w_ckw ?_ | refine w_rvl ?_ | refine w_lrg ?_ | refine w_to ?_ | refine w_ft ?_ | refine w_it ?_ | refine w_rng ?_ | refine w_enu ?_ | refine w_comp ?_
          | refine w_tp ?_ | refine w_tnil ?_ | refine w_tcons ?_
          | refine w_var (d := _) rfl rfl ?_ | refine w_varO (d := _) rfl rfl ?_ | refine w_lnv (d := _) rfl rfl ?_ | refine w_sbv (d0 := _) rfl ?_ | refine w_cio (d0 := _) rfl ?_ | refine w_app (l0 := _) rfl ?_ | refine w_st (d0 := _) rfl ?_ | refine w_retv (d := _) rfl ?_
          | refine w_nm (Nat.le_of_ble_eq_true rfl) ?_
          | refine ex_some (o_add _ _) ?_ | refine ex_some (o_sub _ _) ?_ | refine ex_some rfl ?_ | refine ex_int ?_ | refine ex_lst ?_ | refine ex_sbv rfl rfl rfl ?_ | refine ex_st rfl rfl rfl ?_
          | (refine ⟨(Nat.le_of_ble_eq_true rfl : _ ≤ lim), ?_⟩)))
        refine ex_not (by simp) ?_
        (repeat (first
          | refine w_bcons ?_ | refine w_asg ?_ | refine w_par ?_ | refine w_exp ?_ | refine w_ife ?_ | refine w_ret ?_ | refine w_bnil ?_ | refine w_brk ?_ | refine w_cnt ?_
          | refine w_con ?_ | refine w_bin ?_ | refine w_neg ?_ | refine w_not ?_ | refine w_and ?_ | refine w_or ?_ | refine w_ifx ?_ | refine w_cmp ?_ | refine w_chain ?_
          | refine w_anil ?_ | refine w_acons ?_ | refine w_tup ?_ | refine w_lst ?_ | refine w_sub ?_ | refine w_ono ?_ | refine w_oso ?_ | refine w_slice ?_ | refine w_blt ?_ | refine w_isi ?_
          | refine w_call ?_ | refine w_ckw ?_ | refine w_rvl ?_ | refine w_lrg ?_ | refine w_to ?_ | refine w_ft ?_ | refine w_it ?_ | refine w_rng ?_ | refine w_enu ?_ | refine w_comp ?_
          | refine w_tp ?_ | refine w_tnil ?_ | refine w_tcons ?_
          | refine w_var (d := _) rfl rfl ?_ | refine w_varO (d := _) rfl rfl ?_ | refine w_lnv (d := _) rfl rfl ?_ | refine w_sbv (d0 := _) rfl ?_ | refine w_cio (d0 := _) rfl ?_ | refine w_app (l0 := _) rfl ?_ | refine w_st (d0 := _) rfl ?_ | refine w_retv (d := _) rfl ?_
          | refine w_nm (Nat.le_of_ble_eq_true rfl) ?_
          | refine ex_some (o_add _ _) ?_ | refine ex_some (o_sub _ _) ?_ | refine ex_some rfl ?_ | refine ex_int ?_ | refine ex_lst ?_ | refine ex_sbv rfl rfl rfl ?_ | refine ex_st rfl rfl rfl ?_
          | (refine ⟨(Nat.le_of_ble_eq_true rfl : _ ≤ lim), ?_⟩)))
        exact ⟨_, _, _, _, _, rfl⟩
      · subst eρ
        exact ⟨rfl, _, rfl⟩
    · subst eρ
      (repeat (first
        | refine w_bcons ?_ | refine w_asg ?_ | refine w_par ?_ | refine w_exp ?_ | refine w_ife ?_ | refine w_ret ?_ | refine w_bnil ?_ | refine w_brk ?_ | refine w_cnt ?_
        | refine w_con ?_ | refine w_bin ?_ | refine w_neg ?_ | refine w_not ?_ | refine w_and ?_ | refine w_or ?_ | refine w_ifx ?_ | refine w_cmp ?_ | refine w_chain ?_
        | refine w_anil ?_ | refine w_acons ?_ | refine w_tup ?_ | refine w_lst ?_ | refine w_sub ?_ | refine w_ono ?_ | refine w_oso ?_ | refine w_slice ?_ | refine w_blt ?_ | refine w_isi ?_
        | refine w_call ?_ | refine w_ckw ?_ | refine w_rvl ?_ | refine w_lrg ?_ | refine w_to ?_ | refine w_ft ?_ | refine w_it ?_ | refine w_rng ?_ | refine w_enu ?_ | refine w_comp ?_
        | refine w_tp ?_ | refine w_tnil ?_ | refine w_tcons ?_
        | refine w_var (d := _) rfl rfl ?_ | refine w_varO (d := _) rfl rfl ?_ | refine w_lnv (d := _) rfl rfl ?_ | refine w_sbv (d0 := _) rfl ?_ | refine w_cio (d0 := _) rfl ?_ | refine w_app (l0 := _) rfl ?_ | refine w_st (d0 := _) rfl ?_ | refine w_retv (d := _) rfl ?_
        | refine w_nm (Nat.le_of_ble_eq_true rfl) ?_
        | refine ex_some (o_add _ _) ?_ | refine ex_some (o_sub _ _) ?_ | refine ex_some rfl ?_ | refine ex_int ?_ | refine ex_lst ?_ | refine ex_sbv rfl rfl rfl ?_ | refine ex_st rfl rfl rfl ?_
        | (refine ⟨(Nat.le_of_ble_eq_true rfl : _ ≤ lim), ?_⟩)))
      obtain ⟨l2, e2, g2⟩ := hAr g1
      refine ⟨_, _, _, rfl, e2, ?_⟩
      rfl
end R49

namespace R49
open PySem PySem.Spec Rr
abbrev pg : Program := PySem.Challenge.pw_roundrows_k49_whole_bent_turns
def d_number_power : Dd := ⟨defOf 1 pg, ["p", "number", "times"],
  ["p", "number", "times", "found", "own", "left"], m_number_power⟩
def d_bend_polynomial : Dd := ⟨defOf 3 pg, ["p", "n", "c"],
  ["p", "n", "c"], m_bend_polynomial⟩
def d_bent_turned : Dd := ⟨defOf 4 pg, ["p", "c", "row", "by"],
  ["p", "c", "row", "by", "n", "rounds", "shift", "factor", "whole", "number"], m_bent_turned⟩
def d_number_order : Dd := ⟨defOf 5 pg, ["p", "c"],
  ["p", "c", "found", "own"], m_number_order⟩
def d_whole_turn : Dd := ⟨defOf 6 pg, ["p", "n", "c"],
  ["p", "n", "c"], m_whole_turn⟩
def d_bent_period : Dd := ⟨defOf 7 pg, ["p", "c", "row"],
  ["p", "c", "row", "whole", "by"], m_bent_period⟩
def d_turned_row : Dd := ⟨defOf 9 pg, ["row", "by"],
  ["row", "by", "n", "place"], m_turned_row⟩
def d_row_period : Dd := ⟨defOf 10 pg, ["row"],
  ["row", "by"], m_row_period⟩
def d__law_own_bag : Dd := ⟨defOf 12 pg, ["script"],
  ["script", "cells", "mixed", "cell"], m__law_own_bag⟩
def d__law_draw : Dd := ⟨defOf 13 pg, ["bag", "below"],
  ["bag", "below", "cell", "found"], m__law_draw⟩
def d__law_pick : Dd := ⟨defOf 14 pg, ["bag", "some"],
  ["bag", "some"], m__law_pick⟩
def d__law_integer : Dd := ⟨defOf 15 pg, ["bag"],
  ["bag", "way", "found", "turn"], m__law_integer⟩
def d__law_is_number : Dd := ⟨defOf 16 pg, ["told", "due"],
  ["told", "due"], m__law_is_number⟩
def d__law_is_row : Dd := ⟨defOf 17 pg, ["told", "due"],
  ["told", "due", "item"], m__law_is_row⟩
def d__law_gcd : Dd := ⟨defOf 18 pg, ["one", "other"],
  ["one", "other"], m__law_gcd⟩
def d__law_powers : Dd := ⟨defOf 19 pg, ["p", "c"],
  ["p", "c", "found", "number"], m__law_powers⟩
def d__law_turned : Dd := ⟨defOf 20 pg, ["p", "c", "row", "by"],
  ["p", "c", "row", "by", "n", "powers", "found", "i", "over"], m__law_turned⟩
def d__law_divisors : Dd := ⟨defOf 21 pg, ["number"],
  ["number", "d"], m__law_divisors⟩
def d__law_period : Dd := ⟨defOf 22 pg, ["p", "c", "row"],
  ["p", "c", "row", "whole", "d"], m__law_period⟩
def d__law_short_row : Dd := ⟨defOf 23 pg, ["bag", "p", "n", "c"],
  ["bag", "p", "n", "c", "powers", "steps", "d", "found", "i", "at", "number"], m__law_short_row⟩
def d__law_own_row : Dd := ⟨defOf 24 pg, ["bag", "p", "n", "c"],
  ["bag", "p", "n", "c", "way", "found", "i"], m__law_own_row⟩
def d__law_setting : Dd := ⟨defOf 25 pg, ["bag", "turn"],
  ["bag", "turn", "p", "n", "c"], m__law_setting⟩
def d__law_is_whole_right : Dd := ⟨defOf 26 pg, ["p", "n", "c"],
  ["p", "n", "c", "due", "whole"], m__law_is_whole_right⟩
def d__law_are_all_right : Dd := ⟨defOf 27 pg, ["bag"],
  ["bag", "p", "c", "n", "at", "number", "by", "row", "due"], m__law_are_all_right⟩
def d__law_own_turns : Dd := ⟨defOf 28 pg, ["bag", "n", "whole", "period"],
  ["bag", "n", "whole", "period", "some"], m__law_own_turns⟩
def d__law_are_turns_right : Dd := ⟨defOf 29 pg, ["bag", "p", "c", "row", "period"],
  ["bag", "p", "c", "row", "period", "n", "kept", "whole", "k", "by", "due", "told", "one", "other", "first"], m__law_are_turns_right⟩
def d__law_are_periods_right : Dd := ⟨defOf 30 pg, ["bag", "p", "c", "row", "period"],
  ["bag", "p", "c", "row", "period", "by", "number", "told", "item"], m__law_are_periods_right⟩
def d__law_is_plain_right : Dd := ⟨defOf 31 pg, ["bag", "p", "row"],
  ["bag", "p", "row", "n", "period", "by", "at", "due"], m__law_is_plain_right⟩
def d_law : Dd := ⟨defOf 32 pg, ["script"],
  ["script", "bag", "turn", "p", "n", "c", "row", "period", "fixed", "due"], m_law⟩
def ds : List Dd := [d_number_power, d_bend_polynomial, d_bent_turned, d_number_order, d_whole_turn, d_bent_period, d_turned_row, d_row_period, d__law_own_bag, d__law_draw, d__law_pick, d__law_integer, d__law_is_number, d__law_is_row, d__law_gcd, d__law_powers, d__law_turned, d__law_divisors, d__law_period, d__law_short_row, d__law_own_row, d__law_setting, d__law_is_whole_right, d__law_are_all_right, d__law_own_turns, d__law_are_turns_right, d__law_are_periods_right, d__law_is_plain_right, d_law]
def kwt : List (Nat × List Str × List Nat) := [(4, ["p", "n", "c"], [0, 1, 2]),
  (1, ["p", "n", "c"], [0, 1, 2]),
  (2, ["p", "c", "row", "by"], [0, 1, 2, 3]),
  (5, ["p", "c", "row"], [0, 1, 2])]
def fns : List Str := ["number_power", "bend_polynomial", "bent_turned", "number_order", "whole_turn", "bent_period", "turned_row", "row_period", "_law_own_bag", "_law_draw", "_law_pick", "_law_integer", "_law_is_number", "_law_is_row", "_law_gcd", "_law_powers", "_law_turned", "_law_divisors", "_law_period", "_law_short_row", "_law_own_row", "_law_setting", "_law_is_whole_right", "_law_are_all_right", "_law_own_turns", "_law_are_turns_right", "_law_are_periods_right", "_law_is_plain_right", "law"]
theorem fns_eq : ds.map (·.d.name) = fns := by kernel_rfl
theorem c_number_power : dChk fns kwt d_number_power = true := by kernel_rfl
theorem c_bend_polynomial : dChk fns kwt d_bend_polynomial = true := by kernel_rfl
theorem c_bent_turned : dChk fns kwt d_bent_turned = true := by kernel_rfl
theorem c_number_order : dChk fns kwt d_number_order = true := by kernel_rfl
theorem c_whole_turn : dChk fns kwt d_whole_turn = true := by kernel_rfl
theorem c_bent_period : dChk fns kwt d_bent_period = true := by kernel_rfl
theorem c_turned_row : dChk fns kwt d_turned_row = true := by kernel_rfl
theorem c_row_period : dChk fns kwt d_row_period = true := by kernel_rfl
theorem c__law_own_bag : dChk fns kwt d__law_own_bag = true := by kernel_rfl
theorem c__law_draw : dChk fns kwt d__law_draw = true := by kernel_rfl
theorem c__law_pick : dChk fns kwt d__law_pick = true := by kernel_rfl
theorem c__law_integer : dChk fns kwt d__law_integer = true := by kernel_rfl
theorem c__law_is_number : dChk fns kwt d__law_is_number = true := by kernel_rfl
theorem c__law_is_row : dChk fns kwt d__law_is_row = true := by kernel_rfl
theorem c__law_gcd : dChk fns kwt d__law_gcd = true := by kernel_rfl
theorem c__law_powers : dChk fns kwt d__law_powers = true := by kernel_rfl
theorem c__law_turned : dChk fns kwt d__law_turned = true := by kernel_rfl
theorem c__law_divisors : dChk fns kwt d__law_divisors = true := by kernel_rfl
theorem c__law_period : dChk fns kwt d__law_period = true := by kernel_rfl
theorem c__law_short_row : dChk fns kwt d__law_short_row = true := by kernel_rfl
theorem c__law_own_row : dChk fns kwt d__law_own_row = true := by kernel_rfl
theorem c__law_setting : dChk fns kwt d__law_setting = true := by kernel_rfl
theorem c__law_is_whole_right : dChk fns kwt d__law_is_whole_right = true := by kernel_rfl
theorem c__law_are_all_right : dChk fns kwt d__law_are_all_right = true := by kernel_rfl
theorem c__law_own_turns : dChk fns kwt d__law_own_turns = true := by kernel_rfl
theorem c__law_are_turns_right : dChk fns kwt d__law_are_turns_right = true := by kernel_rfl
theorem c__law_are_periods_right : dChk fns kwt d__law_are_periods_right = true := by kernel_rfl
theorem c__law_is_plain_right : dChk fns kwt d__law_is_plain_right = true := by kernel_rfl
theorem c_law : dChk fns kwt d_law = true := by kernel_rfl
theorem b_number_power : BndP d_number_power := fun _ _ _ _ _ _ us hl => match us, hl with | [_, _, _], _ => rfl
theorem b_bend_polynomial : BndP d_bend_polynomial := fun _ _ _ _ _ _ us hl => match us, hl with | [_, _, _], _ => rfl
theorem b_bent_turned : BndP d_bent_turned := fun _ _ _ _ _ _ us hl => match us, hl with | [_, _, _, _], _ => rfl
theorem b_number_order : BndP d_number_order := fun _ _ _ _ _ _ us hl => match us, hl with | [_, _], _ => rfl
theorem b_whole_turn : BndP d_whole_turn := fun _ _ _ _ _ _ us hl => match us, hl with | [_, _, _], _ => rfl
theorem b_bent_period : BndP d_bent_period := fun _ _ _ _ _ _ us hl => match us, hl with | [_, _, _], _ => rfl
theorem b_turned_row : BndP d_turned_row := fun _ _ _ _ _ _ us hl => match us, hl with | [_, _], _ => rfl
theorem b_row_period : BndP d_row_period := fun _ _ _ _ _ _ us hl => match us, hl with | [_], _ => rfl
theorem b__law_own_bag : BndP d__law_own_bag := fun _ _ _ _ _ _ us hl => match us, hl with | [_], _ => rfl
theorem b__law_draw : BndP d__law_draw := fun _ _ _ _ _ _ us hl => match us, hl with | [_, _], _ => rfl
theorem b__law_pick : BndP d__law_pick := fun _ _ _ _ _ _ us hl => match us, hl with | [_, _], _ => rfl
theorem b__law_integer : BndP d__law_integer := fun _ _ _ _ _ _ us hl => match us, hl with | [_], _ => rfl
theorem b__law_is_number : BndP d__law_is_number := fun _ _ _ _ _ _ us hl => match us, hl with | [_, _], _ => rfl
theorem b__law_is_row : BndP d__law_is_row := fun _ _ _ _ _ _ us hl => match us, hl with | [_, _], _ => rfl
theorem b__law_gcd : BndP d__law_gcd := fun _ _ _ _ _ _ us hl => match us, hl with | [_, _], _ => rfl
theorem b__law_powers : BndP d__law_powers := fun _ _ _ _ _ _ us hl => match us, hl with | [_, _], _ => rfl
theorem b__law_turned : BndP d__law_turned := fun _ _ _ _ _ _ us hl => match us, hl with | [_, _, _, _], _ => rfl
theorem b__law_divisors : BndP d__law_divisors := fun _ _ _ _ _ _ us hl => match us, hl with | [_], _ => rfl
theorem b__law_period : BndP d__law_period := fun _ _ _ _ _ _ us hl => match us, hl with | [_, _, _], _ => rfl
theorem b__law_short_row : BndP d__law_short_row := fun _ _ _ _ _ _ us hl => match us, hl with | [_, _, _, _], _ => rfl
theorem b__law_own_row : BndP d__law_own_row := fun _ _ _ _ _ _ us hl => match us, hl with | [_, _, _, _], _ => rfl
theorem b__law_setting : BndP d__law_setting := fun _ _ _ _ _ _ us hl => match us, hl with | [_, _], _ => rfl
theorem b__law_is_whole_right : BndP d__law_is_whole_right := fun _ _ _ _ _ _ us hl => match us, hl with | [_, _, _], _ => rfl
theorem b__law_are_all_right : BndP d__law_are_all_right := fun _ _ _ _ _ _ us hl => match us, hl with | [_], _ => rfl
theorem b__law_own_turns : BndP d__law_own_turns := fun _ _ _ _ _ _ us hl => match us, hl with | [_, _, _, _], _ => rfl
theorem b__law_are_turns_right : BndP d__law_are_turns_right := fun _ _ _ _ _ _ us hl => match us, hl with | [_, _, _, _, _], _ => rfl
theorem b__law_are_periods_right : BndP d__law_are_periods_right := fun _ _ _ _ _ _ us hl => match us, hl with | [_, _, _, _, _], _ => rfl
theorem b__law_is_plain_right : BndP d__law_is_plain_right := fun _ _ _ _ _ _ us hl => match us, hl with | [_, _, _], _ => rfl
theorem b_law : BndP d_law := fun _ _ _ _ _ _ us hl => match us, hl with | [_], _ => rfl
theorem k_0 : BndK d_whole_turn ["p", "n", "c"] [0, 1, 2] := fun _ _ _ _ _ _ ws hl => match ws, hl with | [_, _, _], _ => rfl
theorem k_1 : BndK d_bend_polynomial ["p", "n", "c"] [0, 1, 2] := fun _ _ _ _ _ _ ws hl => match ws, hl with | [_, _, _], _ => rfl
theorem k_2 : BndK d_bent_turned ["p", "c", "row", "by"] [0, 1, 2, 3] := fun _ _ _ _ _ _ ws hl => match ws, hl with | [_, _, _, _], _ => rfl
theorem k_3 : BndK d_bent_period ["p", "c", "row"] [0, 1, 2] := fun _ _ _ _ _ _ ws hl => match ws, hl with | [_, _, _], _ => rfl
theorem prog : Prog ds kwt := by
  refine ⟨fun e h => ?_, fun e h => ?_, fun q h e he => ?_⟩
  · rw [fns_eq]
    simp only [ds, List.mem_cons, List.not_mem_nil, or_false] at h
    rcases h with rfl | rfl | rfl | rfl | rfl | rfl | rfl | rfl | rfl | rfl | rfl | rfl | rfl | rfl | rfl | rfl | rfl | rfl | rfl | rfl | rfl | rfl | rfl | rfl | rfl | rfl | rfl | rfl | rfl
    · exact c_number_power
    · exact c_bend_polynomial
    · exact c_bent_turned
    · exact c_number_order
    · exact c_whole_turn
    · exact c_bent_period
    · exact c_turned_row
    · exact c_row_period
    · exact c__law_own_bag
    · exact c__law_draw
    · exact c__law_pick
    · exact c__law_integer
    · exact c__law_is_number
    · exact c__law_is_row
    · exact c__law_gcd
    · exact c__law_powers
    · exact c__law_turned
    · exact c__law_divisors
    · exact c__law_period
    · exact c__law_short_row
    · exact c__law_own_row
    · exact c__law_setting
    · exact c__law_is_whole_right
    · exact c__law_are_all_right
    · exact c__law_own_turns
    · exact c__law_are_turns_right
    · exact c__law_are_periods_right
    · exact c__law_is_plain_right
    · exact c_law
  · simp only [ds, List.mem_cons, List.not_mem_nil, or_false] at h
    rcases h with rfl | rfl | rfl | rfl | rfl | rfl | rfl | rfl | rfl | rfl | rfl | rfl | rfl | rfl | rfl | rfl | rfl | rfl | rfl | rfl | rfl | rfl | rfl | rfl | rfl | rfl | rfl | rfl | rfl
    · exact b_number_power
    · exact b_bend_polynomial
    · exact b_bent_turned
    · exact b_number_order
    · exact b_whole_turn
    · exact b_bent_period
    · exact b_turned_row
    · exact b_row_period
    · exact b__law_own_bag
    · exact b__law_draw
    · exact b__law_pick
    · exact b__law_integer
    · exact b__law_is_number
    · exact b__law_is_row
    · exact b__law_gcd
    · exact b__law_powers
    · exact b__law_turned
    · exact b__law_divisors
    · exact b__law_period
    · exact b__law_short_row
    · exact b__law_own_row
    · exact b__law_setting
    · exact b__law_is_whole_right
    · exact b__law_are_all_right
    · exact b__law_own_turns
    · exact b__law_are_turns_right
    · exact b__law_are_periods_right
    · exact b__law_is_plain_right
    · exact b_law
  · simp only [kwt, List.mem_cons, List.not_mem_nil, or_false] at h
    rcases h with rfl | rfl | rfl | rfl
    · cases (show some d_whole_turn = some e from he)
      exact k_0
    · cases (show some d_bend_polynomial = some e from he)
      exact k_1
    · cases (show some d_bent_turned = some e from he)
      exact k_2
    · cases (show some d_bent_period = some e from he)
      exact k_3
abbrev R : PySem.W.OpenRow := PySem.W.OpenLaw.row PySem.Challenge.rw_roundrows_k49_whole_bent_turns
def fa : List He.Fa := facts ds
def fn : List He.DefD := ds.map (·.d)
abbrev hk : PySem.W.Hook := He.hookD 4 fa fn
def ob (s : PySem.W.SharedT) : He.AlD := He.obsDG 4 fa fn (HandSHeadRun.getT s)
theorem ob_eq (s : PySem.W.SharedT) : ob s = hk.obs s.abs :=
  He.obsDG_eq (HandSHeadRun.getT_eq s)
def loose0 : List PySem.Str := ["number_power", "bend_polynomial", "bent_turned", "number_order", "whole_turn", "bent_period", "turned_row", "row_period", "_law_own_bag", "_law_draw", "_law_pick", "_law_integer", "_law_is_number", "_law_is_row", "_law_gcd", "_law_powers", "_law_turned", "_law_divisors", "_law_period", "_law_short_row", "_law_own_row", "_law_setting", "_law_is_whole_right", "_law_are_all_right", "_law_own_turns", "_law_are_turns_right", "_law_are_periods_right", "_law_is_plain_right"]
abbrev loose : List PySem.Str := loose0
theorem run (w : World) : HandSHeadRun.RunEq R (PySem.W.view R.prog [32]) hk ob 4000 loose w := by
  intro os
  kernel_rfl
theorem hat : ∀ e ∈ ds, e.d.at_ = (e.d.name, none) ∧ e.d.dfl = [] ∧ e.d.kwd = [] := by
  intro e h
  simp only [ds, List.mem_cons, List.not_mem_nil, or_false] at h
  rcases h with rfl | rfl | rfl | rfl | rfl | rfl | rfl | rfl | rfl | rfl | rfl | rfl | rfl | rfl | rfl | rfl | rfl | rfl | rfl | rfl | rfl | rfl | rfl | rfl | rfl | rfl | rfl | rfl | rfl <;> exact ⟨rfl, rfl, rfl⟩
end R49

namespace R49
open PySem PySem.Spec Rr
abbrev depth : Nat := 6
theorem plain : ∀ ns : List Int, ns.length ≤ 63 → (∀ i ∈ ns, Builtin.Int.intBits i ≤ 1048576) →
    callN (ds.map (·.m)) depth 28 [.scr ns] = some (.bl true, []) := fun ns h _ => law_ok 0 h
end R49

open PySem PySem.W PySem.Calls PyProof.Rows
set_option maxHeartbeats 0 in
theorem PySem.Challenge.cw_roundrows_k49_whole_bent_turns_holds : PySem.Challenge.rw_roundrows_k49_whole_bent_turns.Holds := by
  w_on; o_law
  refine HandSHeadRun.head_any (r := OpenLaw.row PySem.Challenge.rw_roundrows_k49_whole_bent_turns) (q := view (OpenLaw.row PySem.Challenge.rw_roundrows_k49_whole_bent_turns).prog [32]) (H := R49.hk)
    (ob := R49.ob) (M := 4000) (loose := R49.loose) (d := HandSHeadRun.topDef (OpenLaw.row PySem.Challenge.rw_roundrows_k49_whole_bent_turns).prog 32)
    (kwd := []) R49.ob_eq (by kernel_rfl) (fun s => by kernel_rfl) R49.run (by kernel_rfl)
    (by kernel_rfl) (by kernel_rfl) (by rfl) (by first | assumption | decide +kernel)
    (by decide +kernel) ⟨rfl, rfl, rfl, rfl, rfl, by decide +kernel⟩ ?hw ?hc
  case hw => w_witness2
  case hc =>
    refine Rr.walkk (l := PySem.Challenge.rw_roundrows_k49_whole_bent_turns) (n := 63) (k := R49.depth) (x := "script")
      (m := Rr.callN (R49.ds.map (·.m)) R49.depth 28) rfl (by decide) (by kernel_rfl) ⟨rfl, by decide, by decide⟩ ?F R49.plain
    intro w mg fa h Y G hmg0
    obtain ⟨K, KX, c⟩ := Y
    have hmg : mg ("law" : PySem.Str) = some (.ref fa) := by
      have e : (HandSHeadRun.topDef (OpenLaw.row PySem.Challenge.rw_roundrows_k49_whole_bent_turns).prog 32).name = ("law" : PySem.Str) := by kernel_rfl
      rw [← e]; exact hmg0
    obtain ⟨fd, hb, hF⟩ := Rr.from_head (P := (PySem.Challenge.rw_roundrows_k49_whole_bent_turns).prog) (w := w) (k := R49.depth) (fl := 28) (el := R49.d_law)
      (x := "script") (nm := "law") R49.prog rfl rfl (by kernel_rfl) R49.hat KX G hmg c
    exact ⟨K, fd, KX, hb, hF⟩
