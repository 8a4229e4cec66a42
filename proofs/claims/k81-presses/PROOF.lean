import PyProof.Rows.All
import Wide.All
import OpenK.AllK
import Wide.FinOn
import HandS.ForMost
import HandS.ForExc
import HandS.Flow
import HandS.IsInst
import HandS.Wide
import HandS.WideMore
import HandS.WideBits
import HandS.TupAny
import HandS.TupMul
import HandS.Style
import HandS.Walk
import HandS.ExcCtx
import HandS.HotCalls
import HandS.ExcIs
import HandS.Rev
import HandS.Gcd
import HandS.Small
import HandS.Conv
import HandS.SortInts
import HandS.Text
import PyProof.StrOps2
import PyProof.StrLaws
import HandS.EndBits
import PySem.Challenge.RW_kiteheld_k81_whole_presses_of_a_counter
set_option Elab.async false
set_option linter.all false
set_option maxRecDepth 100000
set_option maxHeartbeats 4000000
/-! DL: a layer of plain data over the hand layer's readings. -/
namespace DL
open PySem PySem.Spec PyProof.Rows L2

/-- plain data -/
inductive D where
  | non | bl (b : Bool) | int (i : Int) | str (x : Str)
  | tup (xs : List D) | lst (xs : List D) | fz (xs : List D)
  | dic (kvs : List (Key × D)) | dit (kvs : List (List Key × D))
  | op (v : V)

/-- a tuple that is read, none of the hot ones -/
def SqTM (K : PySem.W.Frag) (M : Addr → Prop) (H : Hp) (a : Addr) (xs : List V) : Prop :=
  (Rd H a (.tup xs) ∧ ¬ M a) ∨
    ∃ (o : Obj) (its : Array Value) (n : Nat), K.lookup a = some o ∧ o.cls = .type "tuple" ∧ o.data = .seq its n ∧ its.size ≤ sizeLine ∧ Vals xs its.toList
/-- a list that is read alone: the script -/
def SqLM (K : PySem.W.Frag) (M : Addr → Prop) (H : Hp) (a : Addr) (xs : List V) : Prop :=
  (∃ o, H a = some (.frz o (.lst xs)) ∧ ¬ M a) ∨
    ∃ (o : Obj) (its : Array Value) (n : Nat), K.lookup a = some o ∧ o.cls = .type "list" ∧ o.dict = none ∧ o.data = .seq its n ∧ its.size ≤ sizeLine ∧ Vals xs its.toList
theorem SqLM.sq {K : PySem.W.Frag} {M : Addr → Prop} {H : Hp} {a : Addr} {xs : List V} (h : SqLM K M H a xs) : SqL K H a xs := by
  rcases h with ⟨o, h, _⟩ | h
  · exact .inl (.inr ⟨o, h⟩)
  · exact .inr h
theorem SqTM.sq {K : PySem.W.Frag} {M : Addr → Prop} {H : Hp} {a : Addr} {xs : List V} (h : SqTM K M H a xs) : SqT K H a xs := by
  rcases h with h | h
  · exact .inl h.1
  · exact .inr h

mutual
inductive Rep (K : PySem.W.Frag) (M : Addr → Prop) (H : Hp) : V → D → Prop
  | non : Rep K M H .non .non
  | bl (b : Bool) : Rep K M H (.bl b) (.bl b)
  | int (i : Int) : Rep K M H (.int i) (.int i)
  | str (x : Str) : Rep K M H (.str x) (.str x)
  | op (v : V) : Rep K M H v (.op v)
  | tup {a : Addr} {xs : List V} {ds : List D} : SqTM K M H a xs → RepL K M H xs ds → Rep K M H (.ref a) (.tup ds)
  | lst {a : Addr} {xs : List V} {ds : List D} : H a = some (.lst xs) → ¬ M a → RepL K M H xs ds → Rep K M H (.ref a) (.lst ds)
  | fz {a : Addr} {xs : List V} {ds : List D} : SqLM K M H a xs → RepL K M H xs ds → Rep K M H (.ref a) (.fz ds)
  | dic {a : Addr} {kvs : List (Key × V)} {kds : List (Key × D)} : H a = some (.dK kvs) → ¬ M a → RepK K M H kvs kds → Rep K M H (.ref a) (.dic kds)
  | dit {a : Addr} {kvs : List (List Key × V)} {kds : List (List Key × D)} : H a = some (.dT kvs) → ¬ M a → RepT K M H kvs kds → Rep K M H (.ref a) (.dit kds)
inductive RepL (K : PySem.W.Frag) (M : Addr → Prop) (H : Hp) : List V → List D → Prop
  | nil : RepL K M H [] []
  | cons {v : V} {vs : List V} {d : D} {ds : List D} : Rep K M H v d → RepL K M H vs ds → RepL K M H (v :: vs) (d :: ds)
inductive RepK (K : PySem.W.Frag) (M : Addr → Prop) (H : Hp) : List (Key × V) → List (Key × D) → Prop
  | nil : RepK K M H [] []
  | cons {k : Key} {v : V} {vs : List (Key × V)} {d : D} {ds : List (Key × D)} : Rep K M H v d → RepK K M H vs ds → RepK K M H ((k, v) :: vs) ((k, d) :: ds)
inductive RepT (K : PySem.W.Frag) (M : Addr → Prop) (H : Hp) : List (List Key × V) → List (List Key × D) → Prop
  | nil : RepT K M H [] []
  | cons {k : List Key} {v : V} {vs : List (List Key × V)} {d : D} {ds : List (List Key × D)} : Rep K M H v d → RepT K M H vs ds → RepT K M H ((k, v) :: vs) ((k, d) :: ds)
end

/-- what stood and was not hot stands and is not hot -/
def Keep (M : Addr → Prop) (H : Hp) (M' : Addr → Prop) (H' : Hp) : Prop := ∀ a o, H a = some o → ¬ M a → H' a = some o ∧ ¬ M' a
section
variable {K : PySem.W.Frag} {M M' : Addr → Prop} {H H' : Hp}
theorem SqLM.keep (k : Keep M H M' H') {a : Addr} {xs : List V} (h : SqLM K M H a xs) : SqLM K M' H' a xs := by
  rcases h with ⟨o, h, n⟩ | h
  · exact .inl ⟨o, (k _ _ h n).1, (k _ _ h n).2⟩
  · exact .inr h
theorem SqTM.keep (k : Keep M H M' H') {a : Addr} {xs : List V} (h : SqTM K M H a xs) : SqTM K M' H' a xs := by
  rcases h with ⟨h | ⟨o, h⟩, n⟩ | h
  · exact .inl ⟨.inl (k _ _ h n).1, (k _ _ h n).2⟩
  · exact .inl ⟨.inr ⟨o, (k _ _ h n).1⟩, (k _ _ h n).2⟩
  · exact .inr h
mutual
theorem Rep.keep (k : Keep M H M' H') : ∀ {v : V} {d : D}, Rep K M H v d → Rep K M' H' v d
  | _, _, .non => .non
  | _, _, .bl b => .bl b
  | _, _, .int i => .int i
  | _, _, .str x => .str x
  | _, _, .op v => .op v
  | _, _, .tup h r => .tup (h.keep k) (RepL.keep k r)
  | _, _, .lst h n r => .lst (k _ _ h n).1 (k _ _ h n).2 (RepL.keep k r)
  | _, _, .fz h r => .fz (h.keep k) (RepL.keep k r)
  | _, _, .dic h n r => .dic (k _ _ h n).1 (k _ _ h n).2 (RepK.keep k r)
  | _, _, .dit h n r => .dit (k _ _ h n).1 (k _ _ h n).2 (RepT.keep k r)
theorem RepL.keep (k : Keep M H M' H') : ∀ {v : List V} {d : List D}, RepL K M H v d → RepL K M' H' v d
  | _, _, .nil => .nil
  | _, _, .cons h r => .cons (Rep.keep k h) (RepL.keep k r)
theorem RepK.keep (k : Keep M H M' H') : ∀ {v : List (Key × V)} {d : List (Key × D)}, RepK K M H v d → RepK K M' H' v d
  | _, _, .nil => .nil
  | _, _, .cons h r => .cons (Rep.keep k h) (RepK.keep k r)
theorem RepT.keep (k : Keep M H M' H') : ∀ {v : List (List Key × V)} {d : List (List Key × D)}, RepT K M H v d → RepT K M' H' v d
  | _, _, .nil => .nil
  | _, _, .cons h r => .cons (Rep.keep k h) (RepT.keep k r)
end
theorem RepL.length : ∀ {v : List V} {d : List D}, RepL K M H v d → v.length = d.length
  | _, _, .nil => rfl
  | _, _, .cons _ r => by rw [List.length_cons, List.length_cons, RepL.length r]
theorem RepL.get : ∀ {v : List V} {d : List D} {i : Nat} {x : D}, RepL K M H v d → d[i]? = some x → ∃ u, v[i]? = some u ∧ Rep K M H u x
  | _, _, _, _, .nil, e => by simp at e
  | _, _, 0, _, .cons r _, e => by simp at e; subst e; exact ⟨_, rfl, r⟩
  | _, _, i + 1, x, .cons _ t, e => by
    obtain ⟨u, h1, h2⟩ := RepL.get (i := i) (x := x) t (by simpa using e)
    exact ⟨u, by simpa using h1, h2⟩
theorem RepL.get' : ∀ {v : List V} {d : List D} {i : Nat} {u : V}, RepL K M H v d → v[i]? = some u → ∃ x, d[i]? = some x ∧ Rep K M H u x
  | _, _, _, _, .nil, e => by simp at e
  | _, _, 0, _, .cons r _, e => by simp at e; subst e; exact ⟨_, rfl, r⟩
  | _, _, i + 1, x, .cons _ t, e => by
    obtain ⟨u, h1, h2⟩ := RepL.get' (i := i) (u := x) t (by simpa using e)
    exact ⟨u, by simpa using h1, h2⟩
theorem RepL.append : ∀ {v w : List V} {d e : List D}, RepL K M H v d → RepL K M H w e → RepL K M H (v ++ w) (d ++ e)
  | _, _, _, _, .nil, s => s
  | _, _, _, _, .cons r t, s => .cons r (RepL.append t s)
theorem RepL.take : ∀ {v : List V} {d : List D} (n : Nat), RepL K M H v d → RepL K M H (v.take n) (d.take n)
  | _, _, 0, _ => .nil
  | _, _, _ + 1, .nil => .nil
  | _, _, n + 1, .cons r t => .cons r (RepL.take n t)
theorem RepL.drop : ∀ {v : List V} {d : List D} (n : Nat), RepL K M H v d → RepL K M H (v.drop n) (d.drop n)
  | _, _, 0, r => r
  | _, _, _ + 1, .nil => .nil
  | _, _, n + 1, .cons _ t => RepL.drop n t
theorem RepL.set : ∀ {v : List V} {d : List D} {x : V} {y : D} (n : Nat), RepL K M H v d → Rep K M H x y → RepL K M H (v.set n x) (d.set n y)
  | _, _, _, _, _, .nil, _ => .nil
  | _, _, _, _, 0, .cons _ t, r => .cons r t
  | _, _, _, _, n + 1, .cons q t, r => .cons q (RepL.set n t r)
theorem RepL.rev {v : List V} {d : List D} (h : RepL K M H v d) : RepL K M H v.reverse d.reverse := by
  induction v generalizing d with
  | nil => cases h; exact .nil
  | cons x v ih =>
    cases h with
    | cons r t =>
      rw [List.reverse_cons, List.reverse_cons]
      exact (ih t).append (.cons r .nil)
theorem RepL.dropLast {v : List V} {d : List D} (h : RepL K M H v d) : RepL K M H v.dropLast d.dropLast := by
  rw [List.dropLast_eq_take, List.dropLast_eq_take, h.length]
  exact h.take _
theorem RepL.rep {v : List V} {d : List D} (h : RepL K M H v d) : ∀ k : Nat, RepL K M H (List.replicate k v).flatten (List.replicate k d).flatten
  | 0 => .nil
  | k + 1 => by
    rw [List.replicate_succ, List.replicate_succ, List.flatten_cons, List.flatten_cons]
    exact h.append (RepL.rep h k)
theorem RepL.ints : ∀ {v : List V} {ns : List Int}, RepL K M H v (ns.map D.int) → v = ns.map V.int
  | _, [], .nil => rfl
  | _, n :: ns, .cons r t => by
    cases r
    rw [List.map_cons, RepL.ints t]
theorem RepL.of_ints : ∀ (ns : List Int), RepL K M H (ns.map V.int) (ns.map D.int)
  | [] => .nil
  | _ :: ns => .cons (.int _) (RepL.of_ints ns)
end

/-- a thing that may be changed, its parts cold -/
def Own (K : PySem.W.Frag) (M : Addr → Prop) (H : Hp) (p : Addr) : D → Prop
  | .lst ds => ∃ xs, H p = some (.lst xs) ∧ RepL K M H xs ds
  | .dic kds => ∃ kvs, H p = some (.dK kvs) ∧ RepK K M H kvs kds
  | .dit kds => ∃ kvs, H p = some (.dT kvs) ∧ RepT K M H kvs kds
  | _ => False
theorem Own.keep {K : PySem.W.Frag} {M M' : Addr → Prop} {H H' : Hp} {p : Addr} {x : D} (k : Keep M H M' H') (hp : ∀ o, H p = some o → H' p = some o) (h : Own K M H p x) : Own K M' H' p x := by
  cases x with
  | lst ds => obtain ⟨xs, e, r⟩ := h; exact ⟨xs, hp _ e, r.keep k⟩
  | dic ds => obtain ⟨xs, e, r⟩ := h; exact ⟨xs, hp _ e, r.keep k⟩
  | dit ds => obtain ⟨xs, e, r⟩ := h; exact ⟨xs, hp _ e, r.keep k⟩
  | _ => exact h.elim
theorem Own.some {K : PySem.W.Frag} {M : Addr → Prop} {H : Hp} {p : Addr} {x : D} (h : Own K M H p x) : H p ≠ none := by
  cases x with
  | lst ds => obtain ⟨xs, e, r⟩ := h; rw [e]; exact fun z => nomatch z
  | dic ds => obtain ⟨xs, e, r⟩ := h; rw [e]; exact fun z => nomatch z
  | dit ds => obtain ⟨xs, e, r⟩ := h; rw [e]; exact fun z => nomatch z
  | _ => exact h.elim
theorem Own.rep {K : PySem.W.Frag} {M : Addr → Prop} {H : Hp} {p : Addr} {x : D} (h : Own K M H p x) (n : ¬ M p) : Rep K M H (.ref p) x := by
  cases x with
  | lst ds => obtain ⟨xs, e, r⟩ := h; exact .lst e n r
  | dic ds => obtain ⟨xs, e, r⟩ := h; exact .dic e n r
  | dit ds => obtain ⟨xs, e, r⟩ := h; exact .dit e n r
  | _ => exact h.elim

/-- a slot: nothing known, a datum, a thing of one's own that may be changed, the caller's thing that may be changed -/
inductive Sl where
  | no | va (d : D) | ow (d : D) | io (d : D)
abbrev Ev := List Sl
/-- what an expression gives: a datum, a new thing of one's own, the thing of a slot -/
inductive RV where
  | d (x : D) | n (x : D) | o (i : Nat)

/-- p may be written: a slot holds it as its own -/
def Wr (σ : L2.St) (ρ : Ev) (p : Addr) : Prop := ∃ (i : Nat) (d : D), (ρ[i]? = some (.ow d) ∨ ρ[i]? = some (.io d)) ∧ σ[i]? = some (some (.ref p))

structure Sim (K : PySem.W.Frag) (p0 : Option Addr) (M : Addr → Prop) (σ : L2.St) (H : Hp) (ρ : Ev) : Prop where
  len : ρ.length = σ.length
  va : ∀ (i : Nat) (d : D), ρ[i]? = some (.va d) → ∃ v, σ[i]? = some (some v) ∧ Rep K M H v d
  ow : ∀ (i : Nat) (d : D), ρ[i]? = some (.ow d) → ∃ p, σ[i]? = some (some (.ref p)) ∧ M p ∧ Own K M H p d ∧ p0 ≠ some p
  io : ∀ (i : Nat) (d : D), ρ[i]? = some (.io d) → ∃ p, σ[i]? = some (some (.ref p)) ∧ M p ∧ Own K M H p d ∧ p0 = some p
  inj : ∀ (i j : Nat) (d e : D) (p : Addr), (ρ[i]? = some (.ow d) ∨ ρ[i]? = some (.io d)) → (ρ[j]? = some (.ow e) ∨ ρ[j]? = some (.io e)) → σ[i]? = some (some (.ref p)) → σ[j]? = some (some (.ref p)) → i = j
  mok : ∀ p, M p → H p ≠ none
  p0k : ∀ q, p0 = some q → H q ≠ none
theorem Sim.hot {K : PySem.W.Frag} {p0 : Option Addr} {M : Addr → Prop} {σ : L2.St} {H : Hp} {ρ : Ev} (S : Sim K p0 M σ H ρ) {p : Addr} (h : Wr σ ρ p) : M p := by
  obtain ⟨i, d, h | h, e⟩ := h
  · obtain ⟨q, e1, m, _⟩ := S.ow i d h
    rw [e] at e1; cases e1; exact m
  · obtain ⟨q, e1, m, _⟩ := S.io i d h
    rw [e] at e1; cases e1; exact m

structure Step (M : Addr → Prop) (Wp : Addr → Prop) (H : Hp) (M' : Addr → Prop) (H' : Hp) : Prop where
  fr : ∀ a o, H a = some o → ¬ Wp a → H' a = some o
  sub : ∀ a, M' a → M a ∨ H a = none
  kp : ∀ a, M a → ¬ Wp a → M' a
  dom : ∀ a, H a ≠ none → H' a ≠ none
theorem Step.refl {M Wp : Addr → Prop} {H : Hp} : Step M Wp H M H := ⟨fun _ _ h _ => h, fun _ h => .inl h, fun _ h _ => h, fun _ h => h⟩
theorem Step.trans {M M1 M2 W W1 : Addr → Prop} {H H1 H2 : Hp} (a : Step M W H M1 H1) (b : Step M1 W1 H1 M2 H2) (w : ∀ p, W1 p → W p ∨ H p = none) (mok : ∀ p, M p → H p ≠ none) : Step M W H M2 H2 where
  fr := fun p o h n => b.fr p o (a.fr p o h n) fun z => (w p z).elim n fun z => by rw [h] at z; cases z
  sub := fun p h => by
    rcases b.sub p h with h | h
    · exact a.sub p h
    · right
      cases q : H p with
      | none => rfl
      | some o => exact absurd h (a.dom p (by rw [q]; exact fun z => nomatch z))
  kp := fun p h n => b.kp p (a.kp p h n) fun z => (w p z).elim n fun z => mok p h z
  dom := fun p h => b.dom p (a.dom p h)
theorem Step.keep {M W M' : Addr → Prop} {H H' : Hp} (a : Step M W H M' H') (w : ∀ p, W p → M p) : Keep M H M' H' := fun p o h n =>
  ⟨a.fr p o h fun z => n (w p z), fun z => (a.sub p z).elim n fun z => by rw [h] at z; cases z⟩
theorem Step.weak {M W W' M' : Addr → Prop} {H H' : Hp} (a : Step M W H M' H') (w : ∀ p, W p → W' p) : Step M W' H M' H' :=
  ⟨fun p o h n => a.fr p o h fun z => n (w p z), a.sub, fun p h n => a.kp p h fun z => n (w p z), a.dom⟩
abbrev Nil : Addr → Prop := fun _ => False

structure Post (K : PySem.W.Frag) (p0 : Option Addr) (M : Addr → Prop) (σ : L2.St) (H : Hp) (ρ : Ev) (M' : Addr → Prop) (σ' : L2.St) (H' : Hp) (ρ' : Ev) : Prop where
  sim : Sim K p0 M' σ' H' ρ'
  step : Step M (Wr σ ρ) H M' H'
  wr : ∀ p, Wr σ' ρ' p → Wr σ ρ p ∨ H p = none
/-- slots that hold something go on to -/
def Slots (_ _ : Ev) : Prop := True
theorem Slots.refl (ρ : Ev) : Slots ρ ρ := trivial
theorem Slots.trans {ρ ρ1 ρ2 : Ev} (_ : Slots ρ ρ1) (_ : Slots ρ1 ρ2) : Slots ρ ρ2 := trivial
section
variable {K : PySem.W.Frag} {p0 : Option Addr} {M M1 M2 : Addr → Prop} {σ σ1 σ2 : L2.St} {H H1 H2 : Hp} {ρ ρ1 ρ2 : Ev}
theorem Post.refl (S : Sim K p0 M σ H ρ) : Post K p0 M σ H ρ M σ H ρ := ⟨S, Step.refl, fun _ h => .inl h⟩
theorem Post.trans (S : Sim K p0 M σ H ρ) (a : Post K p0 M σ H ρ M1 σ1 H1 ρ1) (b : Post K p0 M1 σ1 H1 ρ1 M2 σ2 H2 ρ2) : Post K p0 M σ H ρ M2 σ2 H2 ρ2 :=
  ⟨b.sim, a.step.trans b.step a.wr S.mok, fun p h => by
    rcases b.wr p h with h | h
    · exact a.wr p h
    · right
      cases q : H p with
      | none => rfl
      | some o => exact absurd h (a.step.dom p (by rw [q]; exact fun z => nomatch z))⟩
theorem Post.keep (S : Sim K p0 M σ H ρ) (a : Post K p0 M σ H ρ M1 σ1 H1 ρ1) : Keep M H M1 H1 := a.step.keep fun _ h => S.hot h
theorem dom_back {H H1 : Hp} (d : ∀ a, H a ≠ none → H1 a ≠ none) {p : Addr} (h : H1 p = none) : H p = none := by
  cases q : H p with
  | none => rfl
  | some o => exact absurd h (d p (by rw [q]; exact fun z => nomatch z))
/-- the state goes on where only new things have come -/
theorem Sim.more (S : Sim K p0 M σ H ρ) (a : Step M Nil H M1 H1) (mok : ∀ p, M1 p → H1 p ≠ none) : Sim K p0 M1 σ H1 ρ := by
  have k : Keep M H M1 H1 := a.keep fun _ z => z.elim
  refine ⟨S.len, fun i d h => ?_, fun i d h => ?_, fun i d h => ?_, S.inj, mok, fun q e => a.dom q (S.p0k q e)⟩
  · obtain ⟨v, e, r⟩ := S.va i d h
    exact ⟨v, e, r.keep k⟩
  · obtain ⟨p, e, m, o, n⟩ := S.ow i d h
    exact ⟨p, e, a.kp p m fun z => z, o.keep k fun u z => a.fr p u z fun z => z, n⟩
  · obtain ⟨p, e, m, o, n⟩ := S.io i d h
    exact ⟨p, e, a.kp p m fun z => z, o.keep k fun u z => a.fr p u z fun z => z, n⟩
theorem Sim.post (S : Sim K p0 M σ H ρ) (a : Step M Nil H M1 H1) (mok : ∀ p, M1 p → H1 p ≠ none) : Post K p0 M σ H ρ M1 σ H1 ρ :=
  ⟨S.more a mok, a.weak fun _ z => z.elim, fun _ h => .inl h⟩
end

/-- a result and the value that bears it; H0: the heap ahead of the expression -/
def RVok (K : PySem.W.Frag) (M : Addr → Prop) (σ : L2.St) (ρ : Ev) (H0 H : Hp) (v : V) : RV → Prop
  | .d x => Rep K M H v x
  | .n x => ∃ p, v = .ref p ∧ M p ∧ ¬ Wr σ ρ p ∧ H0 p = none ∧ Own K M H p x
  | .o i => σ[i]? = some (some v) ∧ True
section
variable {K : PySem.W.Frag} {p0 : Option Addr} {M M1 : Addr → Prop} {σ : L2.St} {H0 H H1 : Hp} {ρ ρ1 : Ev} {v : V} {r : RV}
theorem RVok.post (S : Sim K p0 M σ H ρ) (a : Post K p0 M σ H ρ M1 σ H1 ρ1) (s : Slots ρ ρ1) (h : RVok K M σ ρ H0 H v r) : RVok K M1 σ ρ1 H0 H1 v r := by
  cases r with
  | d x => exact Rep.keep (a.keep S) h
  | n x =>
    obtain ⟨p, rfl, m, nw, f, o⟩ := h
    have hp := o.some
    refine ⟨p, rfl, a.step.kp p m nw, fun z => (a.wr p z).elim nw hp, f, o.keep (a.keep S) fun u e => a.step.fr p u e nw⟩
  | o i =>
    exact h
theorem RVok.back {H00 : Hp} (d : ∀ a, H00 a ≠ none → H0 a ≠ none) (h : RVok K M σ ρ H0 H v r) : RVok K M σ ρ H00 H v r := by
  cases r with
  | d x => exact h
  | n x =>
    obtain ⟨p, rfl, m, nw, f, o⟩ := h
    exact ⟨p, rfl, m, nw, dom_back d f, o⟩
  | o i => exact h
end

/-- the datum of a result -/
def rdS : Option Sl → Option D
  | some (.va x) => some x
  | some (.ow x) => some x
  | some (.io x) => some x
  | _ => none
def rd (ρ : Ev) : RV → Option D
  | .d x => some x
  | .n x => some x
  | .o i => rdS ρ[i]?
/-- v bears x, its parts cold (v itself may be hot) -/
def RepC (K : PySem.W.Frag) (M : Addr → Prop) (H : Hp) (v : V) (x : D) : Prop := Rep K M H v x ∨ ∃ p, v = .ref p ∧ Own K M H p x
theorem rd_ok {K : PySem.W.Frag} {p0 : Option Addr} {M : Addr → Prop} {σ : L2.St} {H0 H : Hp} {ρ : Ev} {v : V} {r : RV} {x : D} (S : Sim K p0 M σ H ρ) (h : RVok K M σ ρ H0 H v r) (e : rd ρ r = some x) : RepC K M H v x := by
  cases r with
  | d y => cases e; exact .inl h
  | n y =>
    cases e
    obtain ⟨p, rfl, _, _, _, o⟩ := h
    exact .inr ⟨p, rfl, o⟩
  | o i =>
    obtain ⟨e1, _⟩ := h
    have e : rdS ρ[i]? = some x := e
    cases hy : ρ[i]? with
    | none => rw [hy] at e; cases e
    | some s =>
      rw [hy] at e
      cases s with
      | no => cases e
      | va y =>
        cases e
        obtain ⟨v', e2, r⟩ := S.va i _ hy
        rw [e1] at e2; cases e2
        exact .inl r
      | ow y =>
        cases e
        obtain ⟨p, e2, _, o, _⟩ := S.ow i _ hy
        rw [e1] at e2; cases e2
        exact .inr ⟨p, rfl, o⟩
      | io y =>
        cases e
        obtain ⟨p, e2, _, o, _⟩ := S.io i _ hy
        rw [e1] at e2; cases e2
        exact .inr ⟨p, rfl, o⟩

/-! ### readings over plain data -/
abbrev EK := RV → Ev → Prop
abbrev XQ := Addr → Ev → Prop
abbrev ET := Ev → EK → XQ → Prop

/-- an expression's reading over data, as a reading of the layer below; W: what is wanted of an exception -/
def lift (K : PySem.W.Frag) (p0 : Option Addr) (W : WX) (t : ET) : TE := fun σ H Q => ∃ (M : Addr → Prop) (ρ : Ev) (q : EK) (x : XQ), Sim K p0 M σ H ρ ∧ t ρ q x ∧
  (∀ v M' H' ρ' r, Post K p0 M σ H ρ M' σ H' ρ' → Slots ρ ρ' → RVok K M' σ ρ' H H' v r → q r ρ' → Q v H') ∧
  (∀ c M' H' ρ', Post K p0 M σ H ρ M' σ H' ρ' → x c ρ' → W (.ref c) none σ H')
/-- a test's -/
abbrev BT := Ev → (Bool → Ev → Prop) → XQ → Prop
def liftB (K : PySem.W.Frag) (p0 : Option Addr) (W : WX) (t : BT) : TT := fun σ H Q => ∃ (M : Addr → Prop) (ρ : Ev) (q : Bool → Ev → Prop) (x : XQ), Sim K p0 M σ H ρ ∧ t ρ q x ∧
  (∀ b M' H' ρ', Post K p0 M σ H ρ M' σ H' ρ' → Slots ρ ρ' → q b ρ' → Q b H') ∧
  (∀ c M' H' ρ', Post K p0 M σ H ρ M' σ H' ρ' → x c ρ' → W (.ref c) none σ H')
/-- the results of an argument list: new things lie apart -/
inductive RVsOk (K : PySem.W.Frag) (M : Addr → Prop) (σ : L2.St) (ρ : Ev) (H0 H : Hp) : List V → List RV → Prop
  | nil : RVsOk K M σ ρ H0 H [] []
  | cons {v : V} {vs : List V} {r : RV} {rs : List RV} : RVok K M σ ρ H0 H v r → (∀ y, r ≠ .n y) → RVsOk K M σ ρ H0 H vs rs → RVsOk K M σ ρ H0 H (v :: vs) (r :: rs)
abbrev AT := Ev → (List RV → Ev → Prop) → XQ → Prop
def liftA (K : PySem.W.Frag) (p0 : Option Addr) (W : WX) (t : AT) : TA := fun σ H Q => ∃ (M : Addr → Prop) (ρ : Ev) (q : List RV → Ev → Prop) (x : XQ), Sim K p0 M σ H ρ ∧ t ρ q x ∧
  (∀ vs M' H' ρ' rs, Post K p0 M σ H ρ M' σ H' ρ' → Slots ρ ρ' → RVsOk K M' σ ρ' H H' vs rs → q rs ρ' → Q vs H') ∧
  (∀ c M' H' ρ', Post K p0 M σ H ρ M' σ H' ρ' → x c ρ' → W (.ref c) none σ H')

structure DE (X : Cx) (p0 : Option Addr) (W : WX) (e : Expr) (t : ET) : Prop where
  pe : PE X e (lift X.K p0 W t)
structure DB (X : Cx) (p0 : Option Addr) (W : WX) (e : Expr) (t : BT) : Prop where
  pt : PT X e (liftB X.K p0 W t)
structure DA (X : Cx) (p0 : Option Addr) (W : WX) (es : List Expr) (t : AT) : Prop where
  pa : PA X es (liftA X.K p0 W t)
theorem PE.imp {X : Cx} {e : Expr} {t u : TE} (h : PE X e t) (i : ∀ σ H Q, u σ H Q → t σ H Q) : PE X e u := ⟨fun pins s σ H Q I hu => h.run pins s σ H Q I (i σ H Q hu)⟩
theorem PT.imp {X : Cx} {e : Expr} {t u : TT} (h : PT X e t) (i : ∀ σ H Q, u σ H Q → t σ H Q) : PT X e u := ⟨fun pins s σ H Q I hu => h.run pins s σ H Q I (i σ H Q hu)⟩
theorem PA.imp {X : Cx} {e : List Expr} {t u : TA} (h : PA X e t) (i : ∀ σ H Q, u σ H Q → t σ H Q) : PA X e u := ⟨fun pos pins s σ H Q I hu => h.run pos pins s σ H Q I (i σ H Q hu)⟩
theorem PS.imp {X : Cx} {e : Stmt} {t u : TS} (h : PS X e t) (i : ∀ D σ H, u D σ H → t D σ H) : PS X e u := ⟨fun pins s σ H Q I hu => h.run pins s σ H Q I (i Q σ H hu)⟩
theorem PSs.imp {X : Cx} {e : List Stmt} {t u : TS} (h : PSs X e t) (i : ∀ D σ H, u D σ H → t D σ H) : PSs X e u := ⟨fun pins s σ H Q I hu => h.run pins s σ H Q I (i Q σ H hu)⟩

end DL

set_option Elab.async false
set_option linter.all false
set_option maxRecDepth 100000
set_option maxHeartbeats 4000000
namespace DL
open PySem PySem.Spec PyProof.Rows L2

/-- what an operation on values has given -/
structure ResOk (K : PySem.W.Frag) (M : Addr → Prop) (H : Hp) (M' : Addr → Prop) (H' : Hp) (v : V) (r : RV) : Prop where
  step : Step M Nil H M' H'
  mok : ∀ p, M' p → H' p ≠ none
  res : match r with
    | .d x => Rep K M' H' v x
    | .n x => ∃ p, v = .ref p ∧ H p = none ∧ M' p ∧ Own K M' H' p x
    | .o _ => False
section
variable {K : PySem.W.Frag} {p0 : Option Addr} {M0 M M1 : Addr → Prop} {σ : L2.St} {H0 H H1 : Hp} {ρ0 ρ : Ev} {v : V} {r : RV}
theorem ResOk.same (mok : ∀ p, M p → H p ≠ none) {x : D} (h : Rep K M H v x) : ResOk K M H M H v (.d x) := ⟨Step.refl, mok, h⟩
theorem ResOk.fin (S0 : Sim K p0 M0 σ H0 ρ0) (a : Post K p0 M0 σ H0 ρ0 M σ H ρ) (h : ResOk K M H M1 H1 v r) : Post K p0 M0 σ H0 ρ0 M1 σ H1 ρ ∧ RVok K M1 σ ρ H0 H1 v r := by
  have b := a.sim.post h.step h.mok
  refine ⟨a.trans S0 b, ?_⟩
  cases r with
  | d x => exact h.res
  | n x =>
    obtain ⟨p, e, f, m, o⟩ := h.res
    refine ⟨p, e, m, fun z => ?_, dom_back a.step.dom f, o⟩
    exact a.sim.mok p (a.sim.hot z) f
  | o i => exact h.res.elim
theorem rep_new (mok : ∀ p, M p → H p ≠ none) {p : Addr} {o : HO} (hp : H p = none) : Step M Nil H M (upd H p o) ∧ (∀ q, M q → upd H p o q ≠ none) ∧ ¬ M p := by
  refine ⟨⟨fun a u h _ => by rw [upd_ne (ne_of_none h hp)]; exact h, fun a h => .inl h, fun a h _ => h, fun a h => ?_⟩, fun q h => ?_, fun h => mok p h hp⟩
  · by_cases e : a = p
    · rw [e, upd_same]; exact fun z => nomatch z
    · rw [upd_ne e]; exact h
  · by_cases e : q = p
    · rw [e, upd_same]; exact fun z => nomatch z
    · rw [upd_ne e]; exact mok q h
/-- a new tuple -/
theorem ResOk.tup (mok : ∀ p, M p → H p ≠ none) {p : Addr} {xs : List V} {ds : List D} (hp : H p = none) (r : RepL K M H xs ds) : ResOk K M H M (upd H p (.tup xs)) (.ref p) (.d (.tup ds)) := by
  obtain ⟨s, m, n⟩ := rep_new (o := .tup xs) mok hp
  exact ⟨s, m, .tup (.inl ⟨.inl upd_same, n⟩) (r.keep (s.keep fun _ z => z.elim))⟩
/-- a new list of one's own -/
theorem ResOk.lst (mok : ∀ p, M p → H p ≠ none) {p : Addr} {xs : List V} {ds : List D} (hp : H p = none) (r : RepL K M H xs ds) : ResOk K M H (fun a => M a ∨ a = p) (upd H p (.lst xs)) (.ref p) (.n (.lst ds)) := by
  obtain ⟨s, m, n⟩ := rep_new (o := .lst xs) mok hp
  have s' : Step M Nil H (fun a => M a ∨ a = p) (upd H p (.lst xs)) := ⟨s.fr, fun a h => h.elim .inl fun e => .inr (e ▸ hp), fun a h _ => .inl h, s.dom⟩
  refine ⟨s', fun q h => ?_, ⟨p, rfl, hp, .inr rfl, xs, upd_same, r.keep (s'.keep fun _ z => z.elim)⟩⟩
  rcases h with h | h
  · exact m q h
  · rw [h, upd_same]; exact fun z => nomatch z
theorem ResOk.dic (mok : ∀ p, M p → H p ≠ none) {p : Addr} {xs : List (Key × V)} {ds : List (Key × D)} (hp : H p = none) (r : RepK K M H xs ds) : ResOk K M H (fun a => M a ∨ a = p) (upd H p (.dK xs)) (.ref p) (.n (.dic ds)) := by
  obtain ⟨s, m, n⟩ := rep_new (o := .dK xs) mok hp
  have s' : Step M Nil H (fun a => M a ∨ a = p) (upd H p (.dK xs)) := ⟨s.fr, fun a h => h.elim .inl fun e => .inr (e ▸ hp), fun a h _ => .inl h, s.dom⟩
  refine ⟨s', fun q h => ?_, ⟨p, rfl, hp, .inr rfl, xs, upd_same, r.keep (s'.keep fun _ z => z.elim)⟩⟩
  rcases h with h | h
  · exact m q h
  · rw [h, upd_same]; exact fun z => nomatch z
end

theorem RVok.dd {K : PySem.W.Frag} {M : Addr → Prop} {σ : L2.St} {ρ : Ev} {H0 H : Hp} {v : V} {x : D} (h : Rep K M H v x) : RVok K M σ ρ H0 H v (.d x) := h
/-! ### names, constants -/
def tK (x : D) : ET := fun ρ q _ => q (.d x) ρ
theorem de_k {X : Cx} {p : Option Addr} {W : WX} {e : Expr} {v : V} {x : D} (h : PE X e (tC v)) (r : ∀ M H, Rep X.K M H v x) : DE X p W e (tK x) := ⟨PE.imp h fun σ H Q ⟨M, ρ, q, xq, S, ht, hq, _⟩ =>
  hq v M H ρ _ (Post.refl S) (Slots.refl ρ) (RVok.dd (r M H)) ht⟩
section
variable {X : Cx} {p : Option Addr} {W : WX} {pos : Pos} {j : Nat}
theorem de_int {i : Int} : DE X p W (.Constant (.int i) j pos) (tK (.int i)) := de_k pe_int fun _ _ => .int i
theorem de_bl {b : Bool} : DE X p W (.Constant (.bool b) j pos) (tK (.bl b)) := de_k pe_bl fun _ _ => .bl b
theorem de_non : DE X p W (.Constant .none j pos) (tK .non) := de_k pe_non fun _ _ => .non
theorem de_str {x : Str} : DE X p W (.Constant (.str x) j pos) (tK (.str x)) := de_k pe_str fun _ _ => .str x
theorem de_gint {x : Str} {i : Int} {t : Tok} (hg : Gl X x) (hm : X.mg x = some (.int i t)) (hd : (x == ("__debug__" : Str)) = false := by decide) : DE X p W (.Name x pos) (tK (.int i)) := de_k (pe_glob hg hm (v := .int i) ⟨t, rfl⟩ hd) fun _ _ => .int i
end
def slR (i : Nat) : Option Sl → Option RV
  | some (.va x) => some (.d x)
  | some (.ow _) => some (.o i)
  | some (.io _) => some (.o i)
  | _ => none
/-- a predicate of a result that may lack -/
def some! {α : Type} (o : Option α) (q : α → Prop) : Prop := match o with
  | some a => q a
  | none => False
theorem some!_ok {α : Type} {o : Option α} {q : α → Prop} (h : some! o q) : ∃ a, o = some a ∧ q a := by
  cases o with
  | none => exact h.elim
  | some a => exact ⟨a, rfl, h⟩
def tV (i : Nat) : ET := fun ρ q _ => some! (slR i ρ[i]?) fun r => q r ρ
theorem var_ok {K : PySem.W.Frag} {p0 : Option Addr} {M : Addr → Prop} {σ : L2.St} {H : Hp} {ρ : Ev} {i : Nat} {r : RV} (S : Sim K p0 M σ H ρ) (h : slR i ρ[i]? = some r) : ∃ v, σ[i]? = some (some v) ∧ RVok K M σ ρ H H v r := by
  cases e : ρ[i]? with
  | none => rw [e] at h; cases h
  | some s =>
    rw [e] at h
    cases s with
    | no => cases h
    | va x =>
      cases h
      obtain ⟨v, e2, r⟩ := S.va i x e
      exact ⟨v, e2, r⟩
    | ow x =>
      cases h
      obtain ⟨q, e2, _⟩ := S.ow i x e
      exact ⟨_, e2, e2, trivial⟩
    | io x =>
      cases h
      obtain ⟨q, e2, _⟩ := S.io i x e
      exact ⟨_, e2, e2, trivial⟩
theorem de_v (i : Nat) {X : Cx} {p : Option Addr} {W : WX} {x : Str} {pos : Pos} (hN : X.N[i]? = some x := by rfl) (hv : Vis X.env.scope x := by first | exact Or.inl rfl | exact Or.inr (Or.inl rfl) | exact Or.inr (Or.inr rfl)) (hd : (x == ("__debug__" : Str)) = false := by decide)
    (hcd : (x == ("__classdict__" : Str)) = false := by decide) : DE X p W (.Name x pos) (tV i) := ⟨PE.imp (pe_var hN hv hd hcd) fun σ H Q ⟨M, ρ, q, xq, S, ht, hq, _⟩ => by
  obtain ⟨r, e, h⟩ := some!_ok ht
  obtain ⟨v, e2, ok⟩ := var_ok S e
  exact ⟨v, e2, hq v M H ρ r (Post.refl S) (Slots.refl ρ) ok h⟩⟩

/-! ### operations -/
def f2 (f : D → D → (RV → Prop) → Prop) (a b : Option D) (q : RV → Prop) : Prop := match a, b with
  | some x, some y => f x y q
  | _, _ => False
theorem f2_ok {f : D → D → (RV → Prop) → Prop} {a b : Option D} {q : RV → Prop} (h : f2 f a b q) : ∃ x y, a = some x ∧ b = some y ∧ f x y q := by
  cases a with
  | none => exact h.elim
  | some x =>
    cases b with
    | none => exact h.elim
    | some y => exact ⟨x, y, rfl, rfl, h⟩
/-- the operation r on values does on data what f says -/
def R2D (K : PySem.W.Frag) (r : R2) (f : D → D → (RV → Prop) → Prop) : Prop := ∀ (M : Addr → Prop) (H : Hp) (x y : V) (a b : D) (Q : VK) (q : RV → Prop), (∀ p, M p → H p ≠ none) → RepC K M H x a → RepC K M H y b → f a b q →
  (∀ v M' H' z, ResOk K M H M' H' v z → q z → Q v H') → r x y H Q
/-- one behind the other, then the operation -/
def t2 (f : D → D → (RV → Prop) → Prop) (ta tb : ET) : ET := fun ρ q x => ta ρ (fun r ρ1 => tb ρ1 (fun s ρ2 => f2 f (rd ρ2 r) (rd ρ2 s) fun z => q z ρ2) x) x
section
variable {X : Cx} {p : Option Addr} {W : WX} {a b c : Expr} {ta tb tc : ET} {pos : Pos}
theorem t2_ok {r : R2} {f : D → D → (RV → Prop) → Prop} (hr : R2D X.K r f) {σ : L2.St} {H : Hp} {Q : VK} (h : lift X.K p W (t2 f ta tb) σ H Q) : tOp r (lift X.K p W ta) (lift X.K p W tb) σ H Q := by
  obtain ⟨M, ρ, q, xq, S, ht, hq, hx⟩ := h
  refine ⟨M, ρ, _, _, S, ht, fun v M1 H1 ρ1 r1 P1 S1 R1 h1 => ?_, hx⟩
  refine ⟨M1, ρ1, _, _, P1.sim, h1, fun u M2 H2 ρ2 r2 P2 S2 R2 h2 => ?_, fun c M2 H2 ρ2 P2 h2 => hx c M2 H2 ρ2 (P1.trans S P2) h2⟩
  obtain ⟨x, y, e1, e2, h3⟩ := f2_ok h2
  have c1 := rd_ok P2.sim (R1.post P1.sim P2 S2) e1
  have c2 := rd_ok P2.sim R2 e2
  refine hr M2 H2 v u x y Q _ P2.sim.mok c1 c2 h3 fun w M3 H3 z ok hz => ?_
  obtain ⟨P3, R3⟩ := ok.fin S (P1.trans S P2)
  exact hq w M3 H3 ρ2 z P3 (S1.trans S2) R3 hz
theorem de_op {op : Operator} {r : R2} {f : D → D → (RV → Prop) → Prop} (ho : OpR X (binaryOp op) r) (hr : R2D X.K r f) (ha : DE X p W a ta) (hb : DE X p W b tb) : DE X p W (.BinOp a op b pos) (t2 f ta tb) :=
  ⟨PE.imp (pe_op ho ha.pe hb.pe) fun _ _ _ h => t2_ok hr h⟩
theorem de_cmp {op : CmpOp} {r : R2} {f : D → D → (RV → Prop) → Prop} (ho : OpR X (compareOp op) r) (hr : R2D X.K r f) (ha : DE X p W a ta) (hb : DE X p W b tb) (hm : behindInMarks op b = false) : DE X p W (.Compare a [op] [b] pos) (t2 f ta tb) :=
  ⟨PE.imp (pe_cmpR ho ha.pe hb.pe hm) fun _ _ _ h => t2_ok hr h⟩
/-- the truth value of a result -/
def blR : RV → Option Bool
  | .d (.bl b) => some b
  | _ => none
theorem blR_ok {K : PySem.W.Frag} {M : Addr → Prop} {σ : L2.St} {ρ : Ev} {H0 H : Hp} {v : V} {r : RV} {b : Bool} (h : blR r = some b) (R : RVok K M σ ρ H0 H v r) : v = .bl b := by
  cases r with
  | d x =>
    cases x with
    | bl c =>
      cases h
      cases R with
      | bl _ => rfl
    | _ => cases h
  | _ => cases h
def tT (t : ET) : BT := fun ρ q x => t ρ (fun r ρ1 => some! (blR r) fun b => q b ρ1) x
theorem tT_ok {t : ET} {σ : L2.St} {H : Hp} {Q : Bool → Hp → Prop} (h : liftB X.K p W (tT t) σ H Q) : lift X.K p W t σ H fun v H1 => ∃ b, v = .bl b ∧ Q b H1 := by
  obtain ⟨M, ρ, q, xq, S, ht, hq, hx⟩ := h
  refine ⟨M, ρ, _, _, S, ht, fun v M1 H1 ρ1 r1 P1 S1 R1 h1 => ?_, hx⟩
  obtain ⟨b, e, h2⟩ := some!_ok h1
  exact ⟨b, blR_ok e R1, hq b M1 H1 ρ1 P1 S1 h2⟩
/-- a comparison as a test -/
theorem db_cmp {op : CmpOp} {r : R2} {f : D → D → (RV → Prop) → Prop} (ho : OpR X (compareOp op) r) (hr : R2D X.K r f) (ha : DE X p W a ta) (hb : DE X p W b tb) (hm : behindInMarks op b = false) : DB X p W (.Compare a [op] [b] pos) (tT (t2 f ta tb)) :=
  ⟨PT.imp (pt_cmpR ho ha.pe hb.pe hm) fun σ H Q h => by
    have h1 := tT_ok h
    exact t2_ok hr h1⟩
/-- an expression whose value is a truth value, as a test -/
theorem db_val {t : ET} (h : DE X p W a t) (he : ∀ whole, isTrue a X.env whole = (do let v ← whole; standAt a.pos; holding [v] (truthy v)) := by intro _; rfl) : DB X p W a (tT t) :=
  ⟨PT.imp (pt_val h.pe he) fun σ H Q h => tT_ok h⟩
/-- a chain a < b < c -/
def tCh (f g : D → D → (RV → Prop) → Prop) (ta tb tc : ET) : ET := fun ρ q x => ta ρ (fun r ρ1 => tb ρ1 (fun s ρ2 => f2 f (rd ρ2 r) (rd ρ2 s) fun z => some! (blR z) fun k =>
  if k = true then tc ρ2 (fun u ρ3 => f2 g (rd ρ3 s) (rd ρ3 u) fun z2 => q z2 ρ3) x else q (.d (.bl false)) ρ2) x) x
theorem tCh_ok {r r' : R2} {f g : D → D → (RV → Prop) → Prop} (hr : R2D X.K r f) (hr' : R2D X.K r' g) {σ : L2.St} {H : Hp} {Q : VK} (h : lift X.K p W (tCh f g ta tb tc) σ H Q) : tChain r r' (lift X.K p W ta) (lift X.K p W tb) (lift X.K p W tc) σ H Q := by
  obtain ⟨M, ρ, q, xq, S, ht, hq, hx⟩ := h
  refine ⟨M, ρ, _, _, S, ht, fun v M1 H1 ρ1 r1 P1 S1 R1 h1 => ?_, hx⟩
  refine ⟨M1, ρ1, _, _, P1.sim, h1, fun u M2 H2 ρ2 r2 P2 S2 R2 h2 => ?_, fun c M2 H2 ρ2 P2 h2 => hx c M2 H2 ρ2 (P1.trans S P2) h2⟩
  obtain ⟨x, y, e1, e2, h3⟩ := f2_ok h2
  have c1 := rd_ok P2.sim (R1.post P1.sim P2 S2) e1
  have c2 := rd_ok P2.sim R2 e2
  refine hr M2 H2 v u x y _ _ P2.sim.mok c1 c2 h3 fun w M3 H3 z ok hz => ?_
  obtain ⟨k, e3, h4⟩ := some!_ok hz
  obtain ⟨P3, R3⟩ := ok.fin S (P1.trans S P2)
  refine ⟨k, blR_ok e3 R3, ?_⟩
  have Q3 := P2.sim.post ok.step ok.mok
  cases k with
  | false =>
    rw [if_neg Bool.false_ne_true] at h4 ⊢
    exact hq _ M3 H3 ρ2 _ P3 (S1.trans S2) (RVok.dd (.bl false)) h4
  | true =>
    rw [if_pos rfl] at h4 ⊢
    refine ⟨M3, ρ2, _, _, P3.sim, h4, fun w2 M4 H4 ρ4 r4 P4 S4 R4 h5 => ?_, fun c M4 H4 ρ4 P4 h5 => hx c M4 H4 ρ4 (P3.trans S P4) h5⟩
    obtain ⟨x2, y2, e4, e5, h6⟩ := f2_ok h5
    have d1 := rd_ok P4.sim ((R2.post P2.sim Q3 (Slots.refl _)).post P3.sim P4 S4) e4
    have d2 := rd_ok P4.sim R4 e5
    refine hr' M4 H4 u w2 x2 y2 _ _ P4.sim.mok d1 d2 h6 fun w5 M5 H5 z5 ok5 hz5 => ?_
    obtain ⟨P5, R5⟩ := ok5.fin S (P3.trans S P4)
    exact hq w5 M5 H5 ρ4 z5 P5 ((S1.trans S2).trans S4) R5 hz5
theorem de_chain {op op' : CmpOp} {r r' : R2} {f g : D → D → (RV → Prop) → Prop} (ho : OpR X (compareOp op) r) (hr : R2D X.K r f) (ho' : OpR X (compareOp op') r') (hr' : R2D X.K r' g) (ha : DE X p W a ta) (hb : DE X p W b tb) (hc : DE X p W c tc)
    (hm : lastMarks [op, op'] [b, c] = false := by with_unfolding_all rfl) : DE X p W (.Compare a [op, op'] [b, c] pos) (tCh f g ta tb tc) :=
  ⟨PE.imp (pe_chain ho ho' ha.pe hb.pe hc.pe hm) fun _ _ _ h => tCh_ok hr hr' h⟩
theorem db_chain {op op' : CmpOp} {r r' : R2} {f g : D → D → (RV → Prop) → Prop} (ho : OpR X (compareOp op) r) (hr : R2D X.K r f) (ho' : OpR X (compareOp op') r') (hr' : R2D X.K r' g) (ha : DE X p W a ta) (hb : DE X p W b tb) (hc : DE X p W c tc)
    (hm : lastMarks [op, op'] [b, c] = false := by with_unfolding_all rfl) : DB X p W (.Compare a [op, op'] [b, c] pos) (tT (tCh f g ta tb tc)) :=
  ⟨PT.imp (pt_chain ho ho' ha.pe hb.pe hc.pe hm) fun _ _ _ h => tCh_ok hr hr' (tT_ok h)⟩

/-! ### and, or, not, if -/
variable {ua ub : BT} {rest : List Expr}
def bAnd (ta tb : BT) : BT := fun ρ q x => ta ρ (fun k ρ1 => if k = true then tb ρ1 q x else q false ρ1) x
def bOr (ta tb : BT) : BT := fun ρ q x => ta ρ (fun k ρ1 => if k = true then q true ρ1 else tb ρ1 q x) x
def bNot (ta : BT) : BT := fun ρ q x => ta ρ (fun k ρ1 => q (!k) ρ1) x
theorem bnext {σ : L2.St} {H : Hp} {Q : Bool → Hp → Prop} {M : Addr → Prop} {ρ : Ev} {q : Bool → Ev → Prop} {x : XQ} (S : Sim X.K p M σ H ρ)
    (hq : ∀ b M' H' ρ', Post X.K p M σ H ρ M' σ H' ρ' → Slots ρ ρ' → q b ρ' → Q b H') (hx : ∀ c M' H' ρ', Post X.K p M σ H ρ M' σ H' ρ' → x c ρ' → W (.ref c) none σ H')
    {M1 : Addr → Prop} {H1 : Hp} {ρ1 : Ev} (P1 : Post X.K p M σ H ρ M1 σ H1 ρ1) (S1 : Slots ρ ρ1) {t : BT} (h : t ρ1 q x) : liftB X.K p W t σ H1 Q :=
  ⟨M1, ρ1, q, x, P1.sim, h, fun b M2 H2 ρ2 P2 S2 h2 => hq b M2 H2 ρ2 (P1.trans S P2) (S1.trans S2) h2, fun c M2 H2 ρ2 P2 h2 => hx c M2 H2 ρ2 (P1.trans S P2) h2⟩
theorem db_and1 (ha : DB X p W a ua) : DB X p W (.BoolOp .And [a] pos) ua := ⟨(pw_and1 ha.pt).pt⟩
theorem db_or1 (ha : DB X p W a ua) : DB X p W (.BoolOp .Or [a] pos) ua := ⟨(pw_or1 ha.pt).pt⟩
structure DW (X : Cx) (p0 : Option Addr) (W : WX) (e : Expr) (t : BT) : Prop where
  pw : PW X e (liftB X.K p0 W t)
theorem PW.imp {X : Cx} {e : Expr} {t u : TT} (h : PW X e t) (i : ∀ σ H Q, u σ H Q → t σ H Q) : PW X e u := ⟨fun wh pins s σ H Q I hu => h.run wh pins s σ H Q I (i σ H Q hu)⟩
theorem DW.toB {e : Expr} (h : DW X p W e ua) : DB X p W e ua := ⟨h.pw.pt⟩
theorem dw_and1 (ha : DB X p W a ua) : DW X p W (.BoolOp .And [a] pos) ua := ⟨pw_and1 ha.pt⟩
theorem dw_or1 (ha : DB X p W a ua) : DW X p W (.BoolOp .Or [a] pos) ua := ⟨pw_or1 ha.pt⟩
theorem dw_and (ha : DB X p W a ua) (hb : DW X p W (.BoolOp .And (b :: rest) pos) ub) : DW X p W (.BoolOp .And (a :: b :: rest) pos) (bAnd ua ub) :=
  ⟨PW.imp (pw_and ha.pt hb.pw) fun σ H Q ⟨M, ρ, q, xq, S, ht, hq, hx⟩ => by
    refine ⟨M, ρ, _, _, S, ht, fun k M1 H1 ρ1 P1 S1 h1 => ?_, hx⟩
    cases k with
    | true =>
      rw [if_pos rfl] at h1 ⊢
      exact bnext S hq hx P1 S1 h1
    | false =>
      rw [if_neg Bool.false_ne_true] at h1 ⊢
      exact hq false M1 H1 ρ1 P1 S1 h1⟩
theorem dw_or (ha : DB X p W a ua) (hb : DW X p W (.BoolOp .Or (b :: rest) pos) ub) : DW X p W (.BoolOp .Or (a :: b :: rest) pos) (bOr ua ub) :=
  ⟨PW.imp (pw_or ha.pt hb.pw) fun σ H Q ⟨M, ρ, q, xq, S, ht, hq, hx⟩ => by
    refine ⟨M, ρ, _, _, S, ht, fun k M1 H1 ρ1 P1 S1 h1 => ?_, hx⟩
    cases k with
    | true =>
      rw [if_pos rfl] at h1 ⊢
      exact hq true M1 H1 ρ1 P1 S1 h1
    | false =>
      rw [if_neg Bool.false_ne_true] at h1 ⊢
      exact bnext S hq hx P1 S1 h1⟩
theorem db_not (ha : DB X p W a ua) : DB X p W (.UnaryOp .Not a pos) (bNot ua) :=
  ⟨PT.imp (pt_not ha.pt) fun σ H Q ⟨M, ρ, q, xq, S, ht, hq, hx⟩ => ⟨M, ρ, _, _, S, ht, fun k M1 H1 ρ1 P1 S1 h1 => hq (!k) M1 H1 ρ1 P1 S1 h1, hx⟩⟩
/-- .. as values: all parts truth values -/
def tAnd' (ta tb : ET) : ET := fun ρ q x => ta ρ (fun r ρ1 => some! (blR r) fun k => if k = true then tb ρ1 q x else q (.d (.bl false)) ρ1) x
def tOr' (ta tb : ET) : ET := fun ρ q x => ta ρ (fun r ρ1 => some! (blR r) fun k => if k = true then q (.d (.bl true)) ρ1 else tb ρ1 q x) x
def tNot' (ta : ET) : ET := fun ρ q x => ta ρ (fun r ρ1 => some! (blR r) fun k => q (.d (.bl (!k))) ρ1) x
theorem enext {σ : L2.St} {H : Hp} {Q : VK} {M : Addr → Prop} {ρ : Ev} {q : EK} {x : XQ} (S : Sim X.K p M σ H ρ)
    (hq : ∀ v M' H' ρ' r, Post X.K p M σ H ρ M' σ H' ρ' → Slots ρ ρ' → RVok X.K M' σ ρ' H H' v r → q r ρ' → Q v H') (hx : ∀ c M' H' ρ', Post X.K p M σ H ρ M' σ H' ρ' → x c ρ' → W (.ref c) none σ H')
    {M1 : Addr → Prop} {H1 : Hp} {ρ1 : Ev} (P1 : Post X.K p M σ H ρ M1 σ H1 ρ1) (S1 : Slots ρ ρ1) {t : ET} (h : t ρ1 q x) : lift X.K p W t σ H1 Q :=
  ⟨M1, ρ1, q, x, P1.sim, h, fun v M2 H2 ρ2 r P2 S2 R2 h2 => hq v M2 H2 ρ2 r (P1.trans S P2) (S1.trans S2) (R2.back P1.step.dom) h2, fun c M2 H2 ρ2 P2 h2 => hx c M2 H2 ρ2 (P1.trans S P2) h2⟩
theorem de_one {op : BoolOp} {t : ET} (h : DE X p W a t) : DE X p W (.BoolOp op [a] pos) t := ⟨pe_one h.pe⟩
theorem de_and (ha : DE X p W a ta) (hb : DE X p W (.BoolOp .And (b :: rest) pos) tb) : DE X p W (.BoolOp .And (a :: b :: rest) pos) (tAnd' ta tb) :=
  ⟨PE.imp (pe_and ha.pe hb.pe) fun σ H Q ⟨M, ρ, q, xq, S, ht, hq, hx⟩ => by
    refine ⟨M, ρ, _, _, S, ht, fun v M1 H1 ρ1 r1 P1 S1 R1 h1 => ?_, hx⟩
    obtain ⟨k, e, h2⟩ := some!_ok h1
    refine ⟨k, blR_ok e R1, ?_⟩
    cases k with
    | true =>
      rw [if_pos rfl] at h2 ⊢
      exact enext S hq hx P1 S1 h2
    | false =>
      rw [if_neg Bool.false_ne_true] at h2 ⊢
      exact hq _ M1 H1 ρ1 _ P1 S1 (RVok.dd (.bl false)) h2⟩
theorem de_or (ha : DE X p W a ta) (hb : DE X p W (.BoolOp .Or (b :: rest) pos) tb) : DE X p W (.BoolOp .Or (a :: b :: rest) pos) (tOr' ta tb) :=
  ⟨PE.imp (pe_or ha.pe hb.pe) fun σ H Q ⟨M, ρ, q, xq, S, ht, hq, hx⟩ => by
    refine ⟨M, ρ, _, _, S, ht, fun v M1 H1 ρ1 r1 P1 S1 R1 h1 => ?_, hx⟩
    obtain ⟨k, e, h2⟩ := some!_ok h1
    refine ⟨k, blR_ok e R1, ?_⟩
    cases k with
    | true =>
      rw [if_pos rfl] at h2 ⊢
      exact hq _ M1 H1 ρ1 _ P1 S1 (RVok.dd (.bl true)) h2
    | false =>
      rw [if_neg Bool.false_ne_true] at h2 ⊢
      exact enext S hq hx P1 S1 h2⟩
theorem de_not (ha : DE X p W a ta) : DE X p W (.UnaryOp .Not a pos) (tNot' ta) :=
  ⟨PE.imp (pe_not ha.pe) fun σ H Q ⟨M, ρ, q, xq, S, ht, hq, hx⟩ => by
    refine ⟨M, ρ, _, _, S, ht, fun v M1 H1 ρ1 r1 P1 S1 R1 h1 => ?_, hx⟩
    obtain ⟨k, e, h2⟩ := some!_ok h1
    exact ⟨k, blR_ok e R1, hq _ M1 H1 ρ1 _ P1 S1 (RVok.dd (.bl _)) h2⟩⟩
def tIf' (tc : BT) (ta tb : ET) : ET := fun ρ q x => tc ρ (fun k ρ1 => if k = true then ta ρ1 q x else tb ρ1 q x) x
theorem de_if (hc : DB X p W c ua) (ha : DE X p W a ta) (hb : DE X p W b tb) : DE X p W (.IfExp c a b pos) (tIf' ua ta tb) :=
  ⟨PE.imp (pe_ifExp hc.pt ha.pe hb.pe) fun σ H Q ⟨M, ρ, q, xq, S, ht, hq, hx⟩ => by
    refine ⟨M, ρ, _, _, S, ht, fun k M1 H1 ρ1 P1 S1 h1 => ?_, hx⟩
    cases k with
    | true =>
      rw [if_pos rfl] at h1 ⊢
      exact enext S hq hx P1 S1 h1
    | false =>
      rw [if_neg Bool.false_ne_true] at h1 ⊢
      exact enext S hq hx P1 S1 h1⟩
end
end DL

set_option Elab.async false
set_option linter.all false
set_option maxRecDepth 100000
set_option maxHeartbeats 4000000
namespace DL
open PySem PySem.Spec PyProof.Rows L2

section
variable {K : PySem.W.Frag} {M : Addr → Prop} {H : Hp} {v : V}
theorem RepC.int {i : Int} (h : RepC K M H v (.int i)) : v = .int i := by
  rcases h with h | ⟨p, _, h⟩
  · cases h with | int _ => rfl
  · exact h.elim
theorem RepC.bl {b : Bool} (h : RepC K M H v (.bl b)) : v = .bl b := by
  rcases h with h | ⟨p, _, h⟩
  · cases h with | bl _ => rfl
  · exact h.elim
theorem RepC.str {x : Str} (h : RepC K M H v (.str x)) : v = .str x := by
  rcases h with h | ⟨p, _, h⟩
  · cases h with | str _ => rfl
  · exact h.elim
theorem RepC.non (h : RepC K M H v .non) : v = .non := by
  rcases h with h | ⟨p, _, h⟩
  · cases h with | non => rfl
  · exact h.elim
theorem RepC.tup {ds : List D} (h : RepC K M H v (.tup ds)) : ∃ a xs, v = .ref a ∧ SqTM K M H a xs ∧ RepL K M H xs ds := by
  rcases h with h | ⟨p, _, h⟩
  · cases h with | tup h r => exact ⟨_, _, rfl, h, r⟩
  · exact h.elim
theorem RepC.lst {ds : List D} (h : RepC K M H v (.lst ds)) : ∃ a xs, v = .ref a ∧ H a = some (.lst xs) ∧ RepL K M H xs ds := by
  rcases h with h | ⟨p, rfl, h⟩
  · cases h with | lst h n r => exact ⟨_, _, rfl, h, r⟩
  · obtain ⟨xs, e, r⟩ := h
    exact ⟨p, xs, rfl, e, r⟩
theorem RepC.fz {ds : List D} (h : RepC K M H v (.fz ds)) : ∃ a xs, v = .ref a ∧ SqLM K M H a xs ∧ RepL K M H xs ds := by
  rcases h with h | ⟨p, _, h⟩
  · cases h with | fz h r => exact ⟨_, _, rfl, h, r⟩
  · exact h.elim
theorem RepC.dic {ds : List (Key × D)} (h : RepC K M H v (.dic ds)) : ∃ a xs, v = .ref a ∧ H a = some (.dK xs) ∧ RepK K M H xs ds := by
  rcases h with h | ⟨p, rfl, h⟩
  · cases h with | dic h n r => exact ⟨_, _, rfl, h, r⟩
  · obtain ⟨xs, e, r⟩ := h
    exact ⟨p, xs, rfl, e, r⟩
theorem RepC.dit {ds : List (List Key × D)} (h : RepC K M H v (.dit ds)) : ∃ a xs, v = .ref a ∧ H a = some (.dT xs) ∧ RepT K M H xs ds := by
  rcases h with h | ⟨p, rfl, h⟩
  · cases h with | dit h n r => exact ⟨_, _, rfl, h, r⟩
  · obtain ⟨xs, e, r⟩ := h
    exact ⟨p, xs, rfl, e, r⟩
theorem RepC.op {u : V} (h : RepC K M H v (.op u)) : v = u := by
  rcases h with h | ⟨p, _, h⟩
  · cases h with | op _ => rfl
  · exact h.elim
end

/-! ### arithmetic -/
def fI (C : Int → Int → Prop) (g : Int → Int → D) : D → D → (RV → Prop) → Prop := fun a b q => match a, b with
  | .int i, .int j => C i j ∧ q (.d (g i j))
  | _, _ => False
def fI0 (g : Int → Int → D) : D → D → (RV → Prop) → Prop := fun a b q => match a, b with
  | .int i, .int j => q (.d (g i j))
  | _, _ => False
theorem rI_ok {K : PySem.W.Frag} {C : Int → Int → Prop} {g : Int → Int → V} {g' : Int → Int → D} (hg : ∀ i j M H, Rep K M H (g i j) (g' i j)) : R2D K (rI C g) (fI C g') := by
  intro M H x y a b Q q mok ra rb h k
  cases a <;> cases b <;> first
    | exact h.elim
    | (obtain ⟨hc, h⟩ := h
       exact ⟨_, _, ra.int, rb.int, hc, k _ M H _ (ResOk.same mok (hg _ _ M H)) h⟩)
theorem rI0_ok {K : PySem.W.Frag} {g : Int → Int → V} {g' : Int → Int → D} (hg : ∀ i j M H, Rep K M H (g i j) (g' i j)) : R2D K (rI0 g) (fI0 g') := by
  intro M H x y a b Q q mok ra rb h k
  cases a <;> cases b <;> first
    | exact h.elim
    | exact ⟨_, _, ra.int, rb.int, k _ M H _ (ResOk.same mok (hg _ _ M H)) h⟩
theorem R2D.or1 {K : PySem.W.Frag} {r r' : R2} {f : D → D → (RV → Prop) → Prop} (h : R2D K r f) : R2D K (fun x y H Q => r x y H Q ∨ r' x y H Q) f := fun M H x y a b Q q mok ra rb hf k => .inl (h M H x y a b Q q mok ra rb hf k)
theorem R2D.or2 {K : PySem.W.Frag} {r r' : R2} {f : D → D → (RV → Prop) → Prop} (h : R2D K r' f) : R2D K (fun x y H Q => r x y H Q ∨ r' x y H Q) f := fun M H x y a b Q q mok ra rb hf k => .inr (h M H x y a b Q q mok ra rb hf k)
/-- a + b -/
def fAdd : D → D → (RV → Prop) → Prop := fun a b q => match a, b with
  | .int i, .int j => q (.d (.int (i + j)))
  | .str x, .str y => x.length + y.length ≤ sizeLine ∧ q (.d (.str (x ++ y)))
  | .lst xs, .lst ys => xs.length + ys.length ≤ sizeLine ∧ q (.n (.lst (xs ++ ys)))
  | .tup xs, .tup ys => xs.length + ys.length ≤ sizeLine ∧ q (.d (.tup (xs ++ ys)))
  | _, _ => False
def rAddA (K : PySem.W.Frag) : R2 := fun x y H Q => rI0 (fun i j => .int (i + j)) x y H Q ∨ (∃ i j, x = .str i ∧ y = .str j ∧ i.length + j.length ≤ sizeLine ∧ Q (.str (i ++ j)) H) ∨ rCat x y H Q ∨ rCatA K x y H Q
theorem op_addA {X : Cx} : OpR X (binaryOp .Add) (rAddA X.K) := op_add.or (op_add_str.or (op_cat.or op_catA))
theorem rAdd_ok {K : PySem.W.Frag} : R2D K (rAddA K) fAdd := by
  intro M H x y a b Q q mok ra rb h k
  cases a with
  | int i =>
    cases b with
    | int j => exact .inl ⟨_, _, ra.int, rb.int, k _ M H _ (ResOk.same mok (.int _)) h⟩
    | _ => exact h.elim
  | str i =>
    cases b with
    | str j => exact .inr (.inl ⟨_, _, ra.str, rb.str, h.1, k _ M H _ (ResOk.same mok (.str _)) h.2⟩)
    | _ => exact h.elim
  | lst ds =>
    cases b with
    | lst es =>
      obtain ⟨p, xs, e1, h1, r1⟩ := ra.lst
      obtain ⟨u, ys, e2, h2, r2⟩ := rb.lst
      refine .inr (.inr (.inl ⟨p, u, xs, ys, e1, e2, h1, h2, by rw [r1.length, r2.length]; exact h.1, fun l hl => k _ _ _ _ (ResOk.lst mok hl (r1.append r2)) h.2⟩))
    | _ => exact h.elim
  | tup ds =>
    cases b with
    | tup es =>
      obtain ⟨p, xs, rfl, h1, r1⟩ := ra.tup
      obtain ⟨u, ys, rfl, h2, r2⟩ := rb.tup
      refine .inr (.inr (.inr ⟨p, u, xs, ys, rfl, rfl, h1.sq, h2.sq, by rw [r1.length, r2.length]; exact h.1, fun e => ?_, fun _ e => ?_, fun _ _ l hl => k _ _ _ _ (ResOk.tup mok hl (r1.append r2)) h.2⟩))
      · subst e
        cases r1
        exact k _ M H _ (ResOk.same mok (.tup h2 r2)) h.2
      · subst e
        cases r2
        have h3 := h.2
        rw [List.append_nil] at h3
        exact k _ M H _ (ResOk.same mok (.tup h1 r1)) h3
    | _ => exact h.elim
  | _ => exact h.elim
/-- a * b -/
def fMul : D → D → (RV → Prop) → Prop := fun a b q => match a, b with
  | .int i, .int j => CMulX i j ∧ q (.d (.int (i * j)))
  | .lst xs, .int k => -(2 ^ 63) ≤ k ∧ k < 2 ^ 63 ∧ xs.length * k.toNat ≤ sizeLine ∧ q (.n (.lst (List.replicate k.toNat xs).flatten))
  | .tup xs, .int k => xs ≠ [] ∧ 2 ≤ k ∧ k ≤ 1000 ∧ xs.length ≤ 1000 ∧ q (.d (.tup (List.replicate k.toNat xs).flatten))
  | _, _ => False
def rMulA (K : PySem.W.Frag) : R2 := fun x y H Q => rI CMulX (fun i j => .int (i * j)) x y H Q ∨ rRep x y H Q ∨ rRepT K x y H Q
theorem op_mulA {X : Cx} : OpR X (binaryOp .Mult) (rMulA X.K) := op_mulX.or (op_rep.or op_repT)
theorem rMul_ok {K : PySem.W.Frag} : R2D K (rMulA K) fMul := by
  intro M H x y a b Q q mok ra rb h k
  cases a with
  | int i =>
    cases b with
    | int j => exact .inl ⟨_, _, ra.int, rb.int, h.1, k _ M H _ (ResOk.same mok (.int _)) h.2⟩
    | _ => exact h.elim
  | lst ds =>
    cases b with
    | int j =>
      obtain ⟨p, xs, e1, h1, r1⟩ := ra.lst
      exact .inr (.inl ⟨p, j, xs, e1, rb.int, h1, h.1, h.2.1, by rw [r1.length]; exact h.2.2.1, fun l hl => k _ _ _ _ (ResOk.lst mok hl (r1.rep _)) h.2.2.2⟩)
    | _ => exact h.elim
  | tup ds =>
    cases b with
    | int j =>
      obtain ⟨p, xs, e1, h1, r1⟩ := ra.tup
      refine .inr (.inr ⟨p, j, xs, e1, rb.int, h1.sq, fun z => h.1 ?_, h.2.1, h.2.2.1, by rw [r1.length]; exact h.2.2.2.1, fun l hl => k _ _ _ _ (ResOk.tup mok hl (r1.rep _)) h.2.2.2.2⟩)
      subst z
      cases r1
      rfl
    | _ => exact h.elim
  | _ => exact h.elim
abbrev fSub := fI0 fun i j => .int (i - j)
abbrev fDiv := fI CDivW fun i j => .int (i / j)
abbrev fMod := fI (fun _ j => 0 < j) fun i j => .int (i % j)
abbrev fPow := fI CPow fun i j => .int (i ^ j.toNat)
abbrev fShl := fI CShl fun i j => .int (i * 2 ^ j.toNat)
abbrev fShr := fI (fun _ j => 0 ≤ j) fun i j => .int (i / 2 ^ j.toNat)
abbrev fAnd := fI0 fun i j => .int (Builtin.bitAnd i j)
abbrev fXor := fI0 fun i j => .int (Builtin.bitXor i j)
abbrev fLt := fI0 fun i j => .bl (decide (i < j))
abbrev fLe := fI0 fun i j => .bl (decide (i ≤ j))
abbrev fGt := fI0 fun i j => .bl (decide (j < i))
abbrev fGe := fI0 fun i j => .bl (decide (j ≤ i))

/-! ### == -/
mutual
def pyD : D → PyData
  | .non => .none
  | .bl b => .bool b
  | .int i => .int i
  | .str x => .str x
  | .tup xs => .tuple (pyDs xs)
  | .lst xs => .list (pyDs xs)
  | .fz _ => .dict []
  | .dic _ => .dict []
  | .dit _ => .dict []
  | .op _ => .dict []
def pyDs : List D → List PyData
  | [] => []
  | x :: xs => pyD x :: pyDs xs
end
theorem shaped_dict {kvs : List (PyData × PyData)} (h : (PyData.dict kvs).canLay0 = true) : False := by
  simp [PyData.canLay0] at h
theorem canLay_list {xs : List PyData} (h : (PyData.list xs).canLay0 = true) : PyData.canLayAll0 xs = true := by
  simpa [PyData.canLay0] using h
theorem canLay_tuple {xs : List PyData} (h : (PyData.tuple xs).canLay0 = true) : PyData.canLayAll0 xs = true := by
  simpa [PyData.canLay0] using h
theorem canLay_cons {x : PyData} {xs : List PyData} (h : PyData.canLayAll0 (x :: xs) = true) : x.canLay0 = true ∧ PyData.canLayAll0 xs = true := by
  simpa [PyData.canLayAll0] using h
section
variable {K : PySem.W.Frag} {M : Addr → Prop} {H : Hp}
mutual
theorem dp_of : ∀ {v : V} {d : D}, Rep K M H v d → (pyD d).canLay0 = true → Dp K H v (pyD d)
  | _, _, .non, _ => by unfold pyD; exact .non
  | _, _, .bl b, _ => by unfold pyD; exact .bl b
  | _, _, .int i, _ => by unfold pyD; exact .int i
  | _, _, .str x, _ => by unfold pyD; exact .str x
  | _, _, .op v, h => by unfold pyD at h; exact (shaped_dict h).elim
  | _, _, .tup s r, h => by unfold pyD at h ⊢; exact .tup s.sq (dpL_of r (canLay_tuple h))
  | _, _, .lst s _ r, h => by unfold pyD at h ⊢; exact .lst (SqL.of s) (dpL_of r (canLay_list h))
  | _, _, .fz s r, h => by unfold pyD at h; exact (shaped_dict h).elim
  | _, _, .dic s _ r, h => by unfold pyD at h; exact (shaped_dict h).elim
  | _, _, .dit s _ r, h => by unfold pyD at h; exact (shaped_dict h).elim
theorem dpL_of : ∀ {v : List V} {d : List D}, RepL K M H v d → PyData.canLayAll0 (pyDs d) = true → DpAll K H v (pyDs d)
  | _, _, .nil, _ => by unfold pyDs; exact .nil
  | _, _, .cons h r, c => by unfold pyDs at c ⊢; exact .cons (dp_of h (canLay_cons c).1) (dpL_of r (canLay_cons c).2)
end
theorem dpC_of {v : V} {d : D} (h : RepC K M H v d) (c : (pyD d).canLay0 = true) : Dp K H v (pyD d) := by
  rcases h with h | ⟨p, rfl, h⟩
  · exact dp_of h c
  · cases d with
    | lst ds =>
      obtain ⟨xs, e, r⟩ := h
      unfold pyD at c ⊢
      exact .lst (SqL.of e) (dpL_of r (canLay_list c))
    | dic _ => unfold pyD at c; exact (shaped_dict c).elim
    | dit _ => unfold pyD at c; exact (shaped_dict c).elim
    | _ => exact h.elim
end
/-- data that == takes -/
def shD (d : D) : Prop := SeqAt.shaped (pyD d) = true
def eqD (a b : D) : Bool := PyData.eqv (pyD a) (pyD b)
/-- == of ints, truth values, texts, None at once; of the rest by parts -/
def fEq : D → D → (RV → Prop) → Prop := fun a b q => match a, b with
  | .int i, .int j => q (.d (.bl (decide (i = j))))
  | .non, .non => q (.d (.bl true))
  | .non, .int _ => q (.d (.bl false))
  | .int _, .non => q (.d (.bl false))
  | .bl i, .bl j => q (.d (.bl (decide (i = j))))
  | .int i, .bl j => q (.d (.bl (decide (i = b2i j))))
  | a, b => shD a ∧ shD b ∧ q (.d (.bl (eqD a b)))
def fNe : D → D → (RV → Prop) → Prop := fun a b q => match a, b with
  | .int i, .int j => q (.d (.bl (!decide (i = j))))
  | .non, .non => q (.d (.bl false))
  | .non, .int _ => q (.d (.bl true))
  | .int _, .non => q (.d (.bl true))
  | .bl i, .bl j => q (.d (.bl (!decide (i = j))))
  | .int i, .bl j => q (.d (.bl (!decide (i = b2i j))))
  | a, b => shD a ∧ shD b ∧ q (.d (.bl (!eqD a b)))
theorem sh_int (i : Int) : shD (.int i) := rfl
theorem sh_bl (i : Bool) : shD (.bl i) := rfl
theorem sh_non : shD .non := rfl
theorem eq_int' (i j : Int) : eqD (.int i) (.int j) = decide (i = j) := by
  unfold eqD pyD PyData.eqv
  exact Bool.beq_eq_decide_eq i j
theorem eq_bl' (i j : Bool) : eqD (.bl i) (.bl j) = decide (i = j) := by
  unfold eqD pyD PyData.eqv
  exact Bool.beq_eq_decide_eq i j
theorem eq_ib' (i : Int) (j : Bool) : eqD (.int i) (.bl j) = decide (i = b2i j) := by
  unfold eqD pyD PyData.eqv
  cases j <;> exact Bool.beq_eq_decide_eq i _
theorem fEq_sh {a b : D} {q : RV → Prop} (h : fEq a b q) : shD a ∧ shD b ∧ q (.d (.bl (eqD a b))) := by
  unfold fEq at h
  split at h
  · exact ⟨sh_int _, sh_int _, by rw [eq_int']; exact h⟩
  · exact ⟨sh_non, sh_non, by rw [show eqD .non .non = true from rfl]; exact h⟩
  · exact ⟨sh_non, sh_int _, by rw [show eqD .non (.int _) = false from rfl]; exact h⟩
  · exact ⟨sh_int _, sh_non, by rw [show eqD (.int _) .non = false from rfl]; exact h⟩
  · exact ⟨sh_bl _, sh_bl _, by rw [eq_bl']; exact h⟩
  · exact ⟨sh_int _, sh_bl _, by rw [eq_ib']; exact h⟩
  · exact h
theorem fNe_sh {a b : D} {q : RV → Prop} (h : fNe a b q) : shD a ∧ shD b ∧ q (.d (.bl (!eqD a b))) := by
  unfold fNe at h
  split at h
  · exact ⟨sh_int _, sh_int _, by rw [eq_int']; exact h⟩
  · exact ⟨sh_non, sh_non, by rw [show eqD .non .non = true from rfl]; exact h⟩
  · exact ⟨sh_non, sh_int _, by rw [show eqD .non (.int _) = false from rfl]; exact h⟩
  · exact ⟨sh_int _, sh_non, by rw [show eqD (.int _) .non = false from rfl]; exact h⟩
  · exact ⟨sh_bl _, sh_bl _, by rw [eq_bl']; exact h⟩
  · exact ⟨sh_int _, sh_bl _, by rw [eq_ib']; exact h⟩
  · exact h
theorem rEq_ok {K : PySem.W.Frag} : R2D K (rEqD K) fEq := by
  intro M H x y a b Q q mok ra rb h k
  obtain ⟨h1, h2, h3⟩ := fEq_sh h
  exact ⟨pyD a, pyD b, dpC_of ra (SeqAt.canLay_of_shaped h1), dpC_of rb (SeqAt.canLay_of_shaped h2), h1, h2, k _ M H _ (ResOk.same mok (.bl _)) h3⟩
theorem rNe_ok {K : PySem.W.Frag} : R2D K (rNeD K) fNe := by
  intro M H x y a b Q q mok ra rb h k
  obtain ⟨h1, h2, h3⟩ := fNe_sh h
  exact ⟨pyD a, pyD b, dpC_of ra (SeqAt.canLay_of_shaped h1), dpC_of rb (SeqAt.canLay_of_shaped h2), h1, h2, k _ M H _ (ResOk.same mok (.bl _)) h3⟩
/-- is None, is True -/
def isNon : D → Option Bool
  | .non => some true
  | .op _ => none
  | _ => some false
def fIs (neg : Bool) : D → D → (RV → Prop) → Prop := fun a b q => match b with
  | .non => some! (isNon a) fun k => q (.d (.bl (neg ^^ k)))
  | .bl j => match a with
    | .bl i => q (.d (.bl (neg ^^ decide (i = j))))
    | _ => False
  | _ => False
def rIsA (K : PySem.W.Frag) : R2 := fun x y H Q => (y = .non ∧ Q (.bl (decide (x = .non))) H) ∨ rIsB x y H Q
def rNotA (K : PySem.W.Frag) : R2 := fun x y H Q => (y = .non ∧ Q (.bl (!decide (x = .non))) H) ∨ rNotB x y H Q
theorem op_isA {X : Cx} : OpR X (compareOp .Is) (rIsA X.K) := op_isN.or op_isBl
theorem op_notA {X : Cx} : OpR X (compareOp .IsNot) (rNotA X.K) := op_notN.or op_notBl
theorem isNon_ok {K : PySem.W.Frag} {M : Addr → Prop} {H : Hp} {v : V} {d : D} {b : Bool} (h : RepC K M H v d) (e : isNon d = some b) : decide (v = .non) = b := by
  have z : ∀ {c : Bool}, some c = some b → c = b := fun e => Option.some.inj e
  rcases h with h | ⟨p, rfl, h⟩
  · cases h with
    | op v => exact nomatch (show (none : Option Bool) = some b from e)
    | non => exact (decide_eq_true rfl).trans (z e)
    | _ => exact (decide_eq_false fun z => nomatch z).trans (z e)
  · cases d with
    | lst _ => exact (decide_eq_false fun z => nomatch z).trans (z e)
    | dic _ => exact (decide_eq_false fun z => nomatch z).trans (z e)
    | dit _ => exact (decide_eq_false fun z => nomatch z).trans (z e)
    | _ => exact h.elim
theorem rIs_ok {K : PySem.W.Frag} : R2D K (rIsA K) (fIs false) := by
  intro M H x y a b Q q mok ra rb h k
  cases b with
  | non =>
    obtain ⟨c, e, h⟩ := some!_ok h
    refine .inl ⟨rb.non, ?_⟩
    rw [isNon_ok ra e]
    refine k _ M H _ (ResOk.same mok (.bl _)) ?_
    rw [Bool.false_xor] at h
    exact h
  | bl j =>
    cases a with
    | bl i =>
      refine .inr ⟨i, j, ra.bl, rb.bl, k _ M H _ (ResOk.same mok (.bl _)) ?_⟩
      have h : q (.d (.bl (false ^^ decide (i = j)))) := h
      rw [Bool.false_xor] at h
      exact h
    | _ => exact h.elim
  | _ => exact h.elim
theorem rIsNot_ok {K : PySem.W.Frag} : R2D K (rNotA K) (fIs true) := by
  intro M H x y a b Q q mok ra rb h k
  cases b with
  | non =>
    obtain ⟨c, e, h⟩ := some!_ok h
    refine .inl ⟨rb.non, ?_⟩
    rw [isNon_ok ra e]
    refine k _ M H _ (ResOk.same mok (.bl _)) ?_
    rw [Bool.true_xor] at h
    exact h
  | bl j =>
    cases a with
    | bl i =>
      refine .inr ⟨i, j, ra.bl, rb.bl, k _ M H _ (ResOk.same mok (.bl _)) ?_⟩
      have h : q (.d (.bl (true ^^ decide (i = j)))) := h
      rw [Bool.true_xor] at h
      exact h
    | _ => exact h.elim
  | _ => exact h.elim

/-! ### subscripts -/
theorem ixN_len {n m : Nat} {i : Int} (h : n = m) : ixN n i = ixN m i := by rw [h]
theorem RepL.at {K : PySem.W.Frag} {M : Addr → Prop} {H : Hp} {xs : List V} {ds : List D} {i : Int} {d : D} (r : RepL K M H xs ds) (h : atI ds i = some d) : ∃ v, atI xs i = some v ∧ Rep K M H v d := by
  unfold atI at h ⊢
  rw [r.length]
  cases e : ixN ds.length i with
  | none => rw [e] at h; cases h
  | some j =>
    rw [e] at h
    exact r.get h
def fIx : D → D → (RV → Prop) → Prop := fun a b q => match a, b with
  | .lst xs, .int i => some! (atI xs i) fun x => q (.d x)
  | .tup xs, .int i => some! (atI xs i) fun x => q (.d x)
  | .fz xs, .int i => some! (atI xs i) fun x => q (.d x)
  | .str x, .int i => x.length ≤ sizeLine ∧ some! (atI x.cps.toList i) fun c => q (.d (.str ⟨#[c]⟩))
  | _, _ => False
theorem rIx_ok {K : PySem.W.Frag} : R2D K (rIx K) fIx := by
  intro M H x y a b Q q mok ra rb h k
  cases a with
  | lst ds =>
    cases b with
    | int i =>
      obtain ⟨d, e, h⟩ := some!_ok h
      obtain ⟨p, xs, ex, hx, r⟩ := ra.lst
      obtain ⟨v, e2, rv⟩ := r.at e
      exact .inl ⟨p, xs, i, v, ex, rb.int, SqL.of hx, e2, k _ M H _ (ResOk.same mok rv) h⟩
    | _ => exact h.elim
  | tup ds =>
    cases b with
    | int i =>
      obtain ⟨d, e, h⟩ := some!_ok h
      obtain ⟨p, xs, ex, hx, r⟩ := ra.tup
      obtain ⟨v, e2, rv⟩ := r.at e
      exact .inr (.inl ⟨p, xs, i, v, ex, rb.int, hx.sq, e2, k _ M H _ (ResOk.same mok rv) h⟩)
    | _ => exact h.elim
  | fz ds =>
    cases b with
    | int i =>
      obtain ⟨d, e, h⟩ := some!_ok h
      obtain ⟨p, xs, ex, hx, r⟩ := ra.fz
      obtain ⟨v, e2, rv⟩ := r.at e
      exact .inl ⟨p, xs, i, v, ex, rb.int, hx.sq, e2, k _ M H _ (ResOk.same mok rv) h⟩
    | _ => exact h.elim
  | str z =>
    cases b with
    | int i =>
      obtain ⟨hz, h⟩ := h
      obtain ⟨c, e, h⟩ := some!_ok h
      exact .inr (.inr ⟨z, i, c, ra.str, rb.int, hz, e, k _ M H _ (ResOk.same mok (.str _)) h⟩)
    | _ => exact h.elim
  | _ => exact h.elim
theorem de_ix {X : Cx} {p : Option Addr} {W : WX} {a b : Expr} {ta tb : ET} {pos : Pos} (ha : DE X p W a ta) (hb : DE X p W b tb) (hs : PlainIx b) : DE X p W (.Subscript a b pos) (t2 fIx ta tb) :=
  ⟨PE.imp (pe_ix ix_seq ha.pe hb.pe hs) fun _ _ _ h => t2_ok rIx_ok h⟩

/-! ### one-place operations -/
def f1 (f : D → (RV → Prop) → Prop) (a : Option D) (q : RV → Prop) : Prop := match a with
  | some x => f x q
  | _ => False
def t1 (f : D → (RV → Prop) → Prop) (ta : ET) : ET := fun ρ q x => ta ρ (fun r ρ1 => f1 f (rd ρ1 r) fun z => q z ρ1) x
def R1D (K : PySem.W.Frag) (r : V → Hp → VK → Prop) (f : D → (RV → Prop) → Prop) : Prop := ∀ (M : Addr → Prop) (H : Hp) (x : V) (a : D) (Q : VK) (q : RV → Prop), (∀ p, M p → H p ≠ none) → RepC K M H x a → f a q →
  (∀ v M' H' z, ResOk K M H M' H' v z → q z → Q v H') → r x H Q
theorem f1_ok {f : D → (RV → Prop) → Prop} {a : Option D} {q : RV → Prop} (h : f1 f a q) : ∃ x, a = some x ∧ f x q := by
  cases a with
  | none => exact h.elim
  | some x => exact ⟨x, rfl, h⟩
theorem t1_ok {X : Cx} {p : Option Addr} {W : WX} {ta : ET} {r : V → Hp → VK → Prop} {f : D → (RV → Prop) → Prop} (hr : R1D X.K r f) {σ : L2.St} {H : Hp} {Q : VK} (h : lift X.K p W (t1 f ta) σ H Q) : lift X.K p W ta σ H fun x H1 => r x H1 Q := by
  obtain ⟨M, ρ, q, xq, S, ht, hq, hx⟩ := h
  refine ⟨M, ρ, _, _, S, ht, fun v M1 H1 ρ1 r1 P1 S1 R1 h1 => ?_, hx⟩
  obtain ⟨x, e1, h3⟩ := f1_ok h1
  refine hr M1 H1 v x Q _ P1.sim.mok (rd_ok P1.sim R1 e1) h3 fun w M3 H3 z ok hz => ?_
  obtain ⟨P3, R3⟩ := ok.fin S P1
  exact hq w M3 H3 ρ1 z P3 S1 R3 hz
theorem de_un {X : Cx} {p : Option Addr} {W : WX} {ta : ET} {a : Expr} {pos : Pos} {op : UnaryOp} {r : V → Hp → VK → Prop} {f : D → (RV → Prop) → Prop} (ho : UnR X (unaryOp op) r) (hr : R1D X.K r f) (ha : DE X p W a ta) : DE X p W (.UnaryOp op a pos) (t1 f ta) :=
  ⟨PE.imp (pe_un ho ha.pe) fun _ _ _ h => t1_ok hr h⟩
def fNeg : D → (RV → Prop) → Prop := fun a q => match a with
  | .int i => q (.d (.int (-i)))
  | _ => False
theorem neg_ok {K : PySem.W.Frag} : R1D K (rU fun i => .int (-i)) fNeg := by
  intro M H x a Q q mok ra h k
  cases a with
  | int i => exact ⟨i, ra.int, k _ M H _ (ResOk.same mok (.int _)) h⟩
  | _ => exact h.elim
/-- the truth of a value, as a test -/
def truD : D → (Bool → Prop) → Prop := fun a q => match a with
  | .non => q false
  | .bl b => q b
  | .int i => q (i != 0)
  | .str y => y.length ≤ sizeLine ∧ q ((y.length : Int) != 0)
  | .lst xs => q (!xs.isEmpty)
  | .tup xs => q (!xs.isEmpty)
  | _ => False
def tTr (ta : ET) : BT := fun ρ q x => ta ρ (fun r ρ1 => match rd ρ1 r with
  | some d => truD d fun b => q b ρ1
  | none => False) x
theorem RepL.isEmpty {K : PySem.W.Frag} {M : Addr → Prop} {H : Hp} {xs : List V} {ds : List D} (r : RepL K M H xs ds) : xs.isEmpty = ds.isEmpty := by cases r <;> rfl
theorem truD_ok {K : PySem.W.Frag} {M : Addr → Prop} {H : Hp} {v : V} {d : D} {q : Bool → Prop} (r : RepC K M H v d) (h : truD d q) : ∃ k, TruV K v H k ∧ q k := by
  cases d with
  | non => rw [r.non]; exact ⟨false, rfl, h⟩
  | bl b => rw [r.bl]; exact ⟨b, rfl, h⟩
  | int i => rw [r.int]; exact ⟨_, rfl, h⟩
  | str y => rw [r.str]; exact ⟨_, ⟨h.1, rfl⟩, h.2⟩
  | lst ds =>
    obtain ⟨p, xs, rfl, hx, r⟩ := r.lst
    exact ⟨_, .inl ⟨xs, SqL.of hx, rfl⟩, by rw [r.isEmpty]; exact h⟩
  | tup ds =>
    obtain ⟨p, xs, rfl, hx, r⟩ := r.tup
    exact ⟨_, .inr (.inl ⟨xs, hx.sq, rfl⟩), by rw [r.isEmpty]; exact h⟩
  | _ => exact h.elim
theorem db_tru {X : Cx} {p : Option Addr} {W : WX} {ta : ET} {a : Expr} (ha : DE X p W a ta) (he : ∀ whole, isTrue a X.env whole = (do let v ← whole; standAt a.pos; holding [v] (truthy v)) := by intro _; rfl) : DB X p W a (tTr ta) :=
  ⟨PT.imp (pt_truth ha.pe he) fun σ H Q ⟨M, ρ, q, xq, S, ht, hq, hx⟩ => by
    refine ⟨M, ρ, _, _, S, ht, fun v M1 H1 ρ1 r1 P1 S1 R1 h1 => ?_, hx⟩
    cases e : rd ρ1 r1 with
    | none =>
      simp only [e] at h1
    | some d =>
      simp only [e] at h1
      obtain ⟨k, h2, h3⟩ := truD_ok (rd_ok P1.sim R1 e) h1
      exact ⟨k, h2, hq k M1 H1 ρ1 P1 S1 h3⟩⟩

/-! ### argument lists -/
def cool : RV → RV
  | .n x => .d x
  | r => r
def aNil : AT := fun ρ q _ => q [] ρ
def aCons (ta : ET) (tr : AT) : AT := fun ρ q x => ta ρ (fun r ρ1 => tr ρ1 (fun rs ρ2 => q (cool r :: rs) ρ2) x) x
section
variable {K : PySem.W.Frag} {p0 : Option Addr} {M0 M : Addr → Prop} {σ : L2.St} {H0 H : Hp} {ρ0 ρ : Ev} {v : V}
/-- fewer are hot -/
theorem Sim.less (S : Sim K p0 M σ H ρ) {M' : Addr → Prop} (h : ∀ a, M' a → M a) (w : ∀ a, Wr σ ρ a → M' a) : Sim K p0 M' σ H ρ := by
  have k : Keep M H M' H := fun a o e n => ⟨e, fun z => n (h a z)⟩
  refine ⟨S.len, fun i d e => ?_, fun i d e => ?_, fun i d e => ?_, S.inj, fun a z => S.mok a (h a z), S.p0k⟩
  · obtain ⟨v, e1, r⟩ := S.va i d e
    exact ⟨v, e1, r.keep k⟩
  · obtain ⟨q, e1, m, o, n⟩ := S.ow i d e
    exact ⟨q, e1, w q ⟨i, d, .inl e, e1⟩, o.keep k fun _ z => z, n⟩
  · obtain ⟨q, e1, m, o, n⟩ := S.io i d e
    exact ⟨q, e1, w q ⟨i, d, .inr e, e1⟩, o.keep k fun _ z => z, n⟩
theorem cool_ok {σ0 : L2.St} (S0 : Sim K p0 M0 σ0 H0 ρ0) (P : Post K p0 M0 σ0 H0 ρ0 M σ H ρ) {r : RV} (ok : RVok K M σ ρ H0 H v r) :
    ∃ M', Post K p0 M0 σ0 H0 ρ0 M' σ H ρ ∧ RVok K M' σ ρ H0 H v (cool r) := by
  cases r with
  | d x => exact ⟨M, P, ok⟩
  | o i => exact ⟨M, P, ok⟩
  | n x =>
    obtain ⟨p, rfl, m, nw, f, o⟩ := ok
    have k : Keep M H (fun a => M a ∧ a ≠ p) H := fun a o e n => ⟨e, fun z => n z.1⟩
    refine ⟨fun a => M a ∧ a ≠ p, ⟨P.sim.less (fun a z => z.1) fun a z => ⟨P.sim.hot z, fun e => nw (e ▸ z)⟩, ⟨P.step.fr, fun a z => P.step.sub a z.1, fun a z n => ⟨P.step.kp a z n, fun e => S0.mok a z (e ▸ f)⟩, P.step.dom⟩, P.wr⟩, ?_⟩
    exact RVok.dd ((o.keep k fun _ z => z).rep fun z => z.2 rfl)
theorem cool_n (r : RV) : ∀ y, cool r ≠ .n y := by
  intro y
  cases r with
  | d x => exact fun z => nomatch z
  | n x => exact fun z => nomatch z
  | o i => exact fun z => nomatch z
end
section
variable {X : Cx} {p : Option Addr} {W : WX} {e : Expr} {es : List Expr} {te : ET} {t : AT} {pos : Pos}
theorem da_nil : DA X p W [] aNil := ⟨PA.imp pa_nil fun σ H Q ⟨M, ρ, q, xq, S, ht, hq, hx⟩ => hq [] M H ρ [] (Post.refl S) (Slots.refl ρ) .nil ht⟩
theorem da_cons (ha : DE X p W e te) (hr : DA X p W es t) (hs : starEach (e :: es) X.env = (false, eval e X.env) :: starEach es X.env := by rfl) : DA X p W (e :: es) (aCons te t) :=
  ⟨PA.imp (pa_cons ha.pe hr.pa hs) fun σ H Q ⟨M, ρ, q, xq, S, ht, hq, hx⟩ => by
    refine ⟨M, ρ, _, _, S, ht, fun v M1 H1 ρ1 r1 P1 S1 R1 h1 => ?_, hx⟩
    obtain ⟨M1', P1', R1'⟩ := cool_ok S P1 R1
    refine ⟨M1', ρ1, _, _, P1'.sim, h1, fun vs M2 H2 ρ2 rs P2 S2 R2 h2 => ?_, fun c M2 H2 ρ2 P2 h2 => hx c M2 H2 ρ2 (P1'.trans S P2) h2⟩
    refine hq (v :: vs) M2 H2 ρ2 _ (P1'.trans S P2) (S1.trans S2) (.cons (R1'.post P1'.sim P2 S2) (cool_n r1) ?_) h2
    clear h2
    induction R2 with
    | nil => exact .nil
    | cons a b c ih => exact .cons (a.back P1'.step.dom) b ih⟩
end
/-- the data of results, as they lie -/
def rdL (ρ : Ev) : List RV → Option (List D)
  | [] => some []
  | r :: rs => match rd ρ r, rdL ρ rs with
    | some x, some xs => some (x :: xs)
    | _, _ => none
inductive RepCL (K : PySem.W.Frag) (M : Addr → Prop) (H : Hp) : List V → List D → Prop
  | nil : RepCL K M H [] []
  | cons {v : V} {vs : List V} {d : D} {ds : List D} : RepC K M H v d → RepCL K M H vs ds → RepCL K M H (v :: vs) (d :: ds)
theorem rdL_ok {K : PySem.W.Frag} {p0 : Option Addr} {M : Addr → Prop} {σ : L2.St} {H0 H : Hp} {ρ : Ev} (S : Sim K p0 M σ H ρ) : ∀ {vs : List V} {rs : List RV} {ds : List D}, RVsOk K M σ ρ H0 H vs rs → rdL ρ rs = some ds → RepCL K M H vs ds
  | _, _, _, .nil, e => by cases e; exact .nil
  | _, _, _, .cons (r := r) (rs := rs) a b c, e => by
    unfold rdL at e
    cases e1 : rd ρ r with
    | none => simp only [e1] at e; cases e
    | some x =>
      cases e2 : rdL ρ rs with
      | none => simp only [e1, e2] at e; cases e
      | some xs =>
        simp only [e1, e2] at e
        cases e
        exact .cons (rd_ok S a e1) (rdL_ok S c e2)
/-- a call of a built-in by values -/
def RCD (K : PySem.W.Frag) (r : List V → Hp → VK → Prop) (f : List D → (RV → Prop) → Prop) : Prop := ∀ (M : Addr → Prop) (H : Hp) (vs : List V) (ds : List D) (Q : VK) (q : RV → Prop), (∀ p, M p → H p ≠ none) → RepCL K M H vs ds → f ds q →
  (∀ v M' H' z, ResOk K M H M' H' v z → q z → Q v H') → r vs H Q
def tC' (f : List D → (RV → Prop) → Prop) (ta : AT) : ET := fun ρ q x => ta ρ (fun rs ρ1 => some! (rdL ρ1 rs) fun ds => f ds fun z => q z ρ1) x
section
variable {X : Cx} {p : Option Addr} {W : WX} {e : Expr} {es : List Expr} {te : ET} {t : AT} {pos pos' : Pos} {x : Str} {id : String} {r : List V → Hp → VK → Prop} {f : List D → (RV → Prop) → Prop}
theorem tC_ok (hr : RCD X.K r f) {σ : L2.St} {H : Hp} {Q : VK} (h : lift X.K p W (tC' f t) σ H Q) : tCB r (liftA X.K p W t) σ H Q := by
  obtain ⟨M, ρ, q, xq, S, ht, hq, hx⟩ := h
  refine ⟨M, ρ, _, _, S, ht, fun vs M1 H1 ρ1 rs P1 S1 R1 h1 => ?_, hx⟩
  obtain ⟨ds, e1, h2⟩ := some!_ok h1
  refine hr M1 H1 vs ds Q _ P1.sim.mok (rdL_ok P1.sim R1 e1) h2 fun w M3 H3 z ok hz => ?_
  obtain ⟨P3, R3⟩ := ok.fin S P1
  exact hq w M3 H3 ρ1 z P3 S1 R3 hz
theorem de_callB (hc : CallR X (.builtin id) r) (hr : RCD X.K r f) (hg : Gl X x) (hm : X.mg x = none) (hv : bootBuiltins x = some (.builtin id)) (ha : DA X p W (e :: es) t) (hn : x ≠ "__name__" := by decide) (hdb : (x == ("__debug__" : Str)) = false := by decide)
    (he : starEach (e :: es) X.env = (false, eval e X.env) :: starEach es X.env := by rfl) (hpl : (backTo pos (starEach es X.env)).any (·.1) = false := by rfl) : DE X p W (.Call (.Name x pos') (e :: es) [] pos) (tC' f t) :=
  ⟨PE.imp (pe_callB hc hg hm hv ha.pa hn hdb he hpl) fun _ _ _ h => tC_ok hr h⟩
theorem de_callTy (hc : CallR X (.type id) r) (hr : RCD X.K r f) (hg : Gl X x) (hm : X.mg x = none) (hv : bootBuiltins x = some (.type id)) (ha : DA X p W (e :: es) t) (hn : x ≠ "__name__" := by decide) (hdb : (x == ("__debug__" : Str)) = false := by decide)
    (he : starEach (e :: es) X.env = (false, eval e X.env) :: starEach es X.env := by rfl) (hpl : (backTo pos (starEach es X.env)).any (·.1) = false := by rfl) : DE X p W (.Call (.Name x pos') (e :: es) [] pos) (tC' f t) :=
  ⟨PE.imp (pe_callTy hc hg hm hv ha.pa hn hdb he hpl) fun _ _ _ h => tC_ok hr h⟩
end
theorem RepCL.one {K : PySem.W.Frag} {M : Addr → Prop} {H : Hp} {vs : List V} {d : D} (h : RepCL K M H vs [d]) : ∃ v, vs = [v] ∧ RepC K M H v d := by
  cases h with | cons a b => cases b; exact ⟨_, rfl, a⟩
theorem RepCL.two {K : PySem.W.Frag} {M : Addr → Prop} {H : Hp} {vs : List V} {d e : D} (h : RepCL K M H vs [d, e]) : ∃ v u, vs = [v, u] ∧ RepC K M H v d ∧ RepC K M H u e := by
  cases h with | cons a b => cases b with | cons c f => cases f; exact ⟨_, _, rfl, a, c⟩
/-- len -/
def fLen : List D → (RV → Prop) → Prop := fun ds q => match ds with
  | [.lst xs] => q (.d (.int (xs.length : Int)))
  | [.tup xs] => q (.d (.int (xs.length : Int)))
  | [.fz xs] => q (.d (.int (xs.length : Int)))
  | [.str x] => x.length ≤ sizeLine ∧ q (.d (.int (x.length : Int)))
  | _ => False
def rLenA (K : PySem.W.Frag) : List V → Hp → VK → Prop := fun vs H Q => (∃ p ys, vs = [.ref p] ∧ (SqL K H p ys ∨ SqT K H p ys) ∧ Q (.int ys.length) H) ∨ ∃ z, vs = [.str z] ∧ z.length ≤ sizeLine ∧ Q (.int z.length) H
theorem call_lenA {X : Cx} : CallR X (.builtin "len") (rLenA X.K) := call_len_seq.or call_len_str
theorem len_ok {K : PySem.W.Frag} : RCD K (rLenA K) fLen := by
  intro M H vs ds Q q mok r h k
  unfold fLen at h
  split at h
  · obtain ⟨v, rfl, s⟩ := r.one
    obtain ⟨p, xs, rfl, hx, t⟩ := s.lst
    refine .inl ⟨p, xs, rfl, .inl (SqL.of hx), ?_⟩
    rw [t.length]
    exact k _ M H _ (ResOk.same mok (.int _)) h
  · obtain ⟨v, rfl, s⟩ := r.one
    obtain ⟨p, xs, rfl, hx, t⟩ := s.tup
    refine .inl ⟨p, xs, rfl, .inr hx.sq, ?_⟩
    rw [t.length]
    exact k _ M H _ (ResOk.same mok (.int _)) h
  · obtain ⟨v, rfl, s⟩ := r.one
    obtain ⟨p, xs, rfl, hx, t⟩ := s.fz
    refine .inl ⟨p, xs, rfl, .inl hx.sq, ?_⟩
    rw [t.length]
    exact k _ M H _ (ResOk.same mok (.int _)) h
  · obtain ⟨v, rfl, s⟩ := r.one
    rw [s.str]
    exact .inr ⟨_, rfl, h.1, k _ M H _ (ResOk.same mok (.int _)) h.2⟩
  · exact h.elim
/-- abs, int, min, max of ints -/
def fAbs : List D → (RV → Prop) → Prop := fun ds q => match ds with
  | [.int i] => q (.d (.int (if i < 0 then -i else i)))
  | _ => False
theorem abs_ok {K : PySem.W.Frag} : RCD K (fun xs H Q => ∃ i, xs = [.int i] ∧ Q (.int (if i < 0 then -i else i)) H) fAbs := by
  intro M H vs ds Q q mok r h k
  unfold fAbs at h
  split at h
  · obtain ⟨v, rfl, s⟩ := r.one
    rw [s.int]
    exact ⟨_, rfl, k _ M H _ (ResOk.same mok (.int _)) h⟩
  · exact h.elim
def fInt1 : List D → (RV → Prop) → Prop := fun ds q => match ds with
  | [.int i] => q (.d (.int i))
  | [.bl b] => q (.d (.int (if b then 1 else 0)))
  | _ => False
theorem int1_ok {K : PySem.W.Frag} : RCD K (fun xs H Q => (∃ i, xs = [.int i] ∧ Q (.int i) H) ∨ ∃ k, xs = [.bl k] ∧ Q (.int (if k then 1 else 0)) H) fInt1 := by
  intro M H vs ds Q q mok r h k
  unfold fInt1 at h
  split at h
  · obtain ⟨v, rfl, s⟩ := r.one
    rw [s.int]
    exact .inl ⟨_, rfl, k _ M H _ (ResOk.same mok (.int _)) h⟩
  · obtain ⟨v, rfl, s⟩ := r.one
    rw [s.bl]
    exact .inr ⟨_, rfl, k _ M H _ (ResOk.same mok (.int _)) h⟩
  · exact h.elim
def fInts2 (g : Int → Int → Int) : List D → (RV → Prop) → Prop := fun ds q => match ds with
  | [.int i, .int j] => q (.d (.int (g i j)))
  | _ => False
theorem ints2_ok {K : PySem.W.Frag} {g : Int → Int → Int} : RCD K (fun xs H Q => ∃ i j, xs = [.int i, .int j] ∧ Q (.int (g i j)) H) (fInts2 g) := by
  intro M H vs ds Q q mok r h k
  unfold fInts2 at h
  split at h
  · obtain ⟨v, u, rfl, r1, r2⟩ := r.two
    rw [r1.int, r2.int]
    exact ⟨_, _, rfl, k _ M H _ (ResOk.same mok (.int _)) h⟩
  · exact h.elim
abbrev fMax2 := fInts2 fun i j => if j > i then j else i
abbrev fMin2 := fInts2 fun i j => if j < i then j else i
end DL

set_option Elab.async false
set_option linter.all false
set_option maxRecDepth 100000
set_option maxHeartbeats 4000000
namespace DL
open PySem PySem.Spec PyProof.Rows L2

/-! ### a result put away: a slot's own thing grows cold -/
def settleS (i : Nat) (ρ : Ev) : Option Sl → Option (D × Ev)
  | some (.va x) => some (x, ρ)
  | some (.ow x) => some (x, ρ.set i (.va x))
  | _ => none
def settle (ρ : Ev) : RV → Option (D × Ev)
  | .d x => some (x, ρ)
  | .n x => some (x, ρ)
  | .o i => settleS i ρ ρ[i]?
def settleL (ρ : Ev) : List RV → Option (List D × Ev)
  | [] => some ([], ρ)
  | r :: rs => match settle ρ r with
    | some (x, ρ1) => match settleL ρ1 rs with
      | some (xs, ρ2) => some (x :: xs, ρ2)
      | none => none
    | none => none
section
variable {K : PySem.W.Frag} {p0 : Option Addr} {M0 M : Addr → Prop} {σ : L2.St} {H0 H : Hp} {ρ0 ρ ρ' : Ev} {v : V} {i : Nat} {x : D} {r : RV}
theorem get_set {ρ : Ev} {i j : Nat} {s t : Sl} (h : (ρ.set i s)[j]? = some t) : (j = i ∧ t = s) ∨ (j ≠ i ∧ ρ[j]? = some t) := by
  by_cases e : j = i
  · subst e
    left
    refine ⟨rfl, ?_⟩
    by_cases hl : j < ρ.length
    · rw [List.getElem?_set_self hl] at h
      exact (Option.some.inj h).symm
    · rw [List.getElem?_eq_none (by rw [List.length_set]; omega)] at h
      cases h
  · right
    rw [List.getElem?_set_ne (Ne.symm e)] at h
    exact ⟨e, h⟩
/-- a slot's own thing grows cold -/
theorem freeze_ok (S : Sim K p0 M σ H ρ) {p : Addr} (hi : ρ[i]? = some (.ow x)) (hs : σ[i]? = some (some (.ref p))) :
    ∃ M', Post K p0 M σ H ρ M' σ H (ρ.set i (.va x)) ∧ Slots ρ (ρ.set i (.va x)) ∧ Rep K M' H (.ref p) x := by
  obtain ⟨q, e, m, o, n⟩ := S.ow i x hi
  rw [hs] at e; cases e
  have k : Keep M H (fun a => M a ∧ a ≠ p) H := fun a o e n => ⟨e, fun z => n z.1⟩
  have hl : i < ρ.length := (List.getElem?_eq_some_iff.mp hi).1
  have R : Rep K (fun a => M a ∧ a ≠ p) H (.ref p) x := (o.keep k fun _ z => z).rep fun z => z.2 rfl
  have ne : ∀ {j : Nat} {d : D} {q : Addr}, j ≠ i → (ρ[j]? = some (.ow d) ∨ ρ[j]? = some (.io d)) → σ[j]? = some (some (.ref q)) → q ≠ p := fun {j d q} hj h1 h2 e => by
    subst e
    exact hj (S.inj j i d x q h1 (.inl hi) h2 hs)
  refine ⟨fun a => M a ∧ a ≠ p, ⟨⟨by rw [List.length_set]; exact S.len, fun j d e => ?_, fun j d e => ?_, fun j d e => ?_, fun j l d e q h1 h2 h3 h4 => ?_, fun a z => S.mok a z.1, S.p0k⟩, ⟨fun a o e _ => e, fun a z => .inl z.1, fun a z n => ⟨z, fun e => n ⟨i, x, .inl hi, e ▸ hs⟩⟩, fun a z => z⟩, fun a ⟨j, d, h1, h2⟩ => ?_⟩, trivial, R⟩
  · rcases get_set e with ⟨rfl, e'⟩ | ⟨_, e'⟩
    · cases e'
      exact ⟨_, hs, R⟩
    · obtain ⟨v, e1, r⟩ := S.va j d e'
      exact ⟨v, e1, r.keep k⟩
  · rcases get_set e with ⟨rfl, e'⟩ | ⟨hj, e'⟩
    · cases e'
    · obtain ⟨q, e1, m, o, n⟩ := S.ow j d e'
      exact ⟨q, e1, ⟨m, ne hj (.inl e') e1⟩, o.keep k fun _ z => z, n⟩
  · rcases get_set e with ⟨rfl, e'⟩ | ⟨hj, e'⟩
    · cases e'
    · obtain ⟨q, e1, m, o, n⟩ := S.io j d e'
      exact ⟨q, e1, ⟨m, ne hj (.inr e') e1⟩, o.keep k fun _ z => z, n⟩
  · have old : ∀ {j : Nat} {d : D}, ((ρ.set i (.va x))[j]? = some (.ow d) ∨ (ρ.set i (.va x))[j]? = some (.io d)) → (ρ[j]? = some (.ow d) ∨ ρ[j]? = some (.io d)) := fun {j d} h => by
      rcases h with h | h
      · rcases get_set h with ⟨_, e⟩ | ⟨_, e⟩
        · cases e
        · exact .inl e
      · rcases get_set h with ⟨_, e⟩ | ⟨_, e⟩
        · cases e
        · exact .inr e
    exact S.inj j l d e q (old h1) (old h2) h3 h4
  · left
    rcases h1 with h | h
    · rcases get_set h with ⟨_, e⟩ | ⟨_, e⟩
      · cases e
      · exact ⟨j, d, .inl e, h2⟩
    · rcases get_set h with ⟨_, e⟩ | ⟨_, e⟩
      · cases e
      · exact ⟨j, d, .inr e, h2⟩
theorem settle_ok (S : Sim K p0 M σ H ρ) (ok : RVok K M σ ρ H0 H v r) (nn : ∀ y, r ≠ .n y) (e : settle ρ r = some (x, ρ')) : ∃ M', Post K p0 M σ H ρ M' σ H ρ' ∧ Slots ρ ρ' ∧ Rep K M' H v x := by
  cases r with
  | d y =>
    cases e
    exact ⟨M, Post.refl S, Slots.refl ρ, ok⟩
  | n y => exact absurd rfl (nn y)
  | o i =>
    obtain ⟨e1, _⟩ := ok
    have e : settleS i ρ ρ[i]? = some (x, ρ') := e
    cases hy : ρ[i]? with
    | none => rw [hy] at e; cases e
    | some s =>
      rw [hy] at e
      cases s with
      | va y =>
        cases e
        obtain ⟨v', e2, r⟩ := S.va i _ hy
        rw [e1] at e2; cases e2
        exact ⟨M, Post.refl S, Slots.refl ρ, r⟩
      | ow y =>
        cases e
        obtain ⟨p, e2, _⟩ := S.ow i _ hy
        rw [e1] at e2; cases e2
        exact freeze_ok S hy e1
      | _ => cases e
theorem RVsOk.post {M1 : Addr → Prop} {H1 : Hp} {ρ1 : Ev} {vs : List V} {rs : List RV} (S : Sim K p0 M σ H ρ) (P : Post K p0 M σ H ρ M1 σ H1 ρ1) (s : Slots ρ ρ1) (c : RVsOk K M σ ρ H0 H vs rs) : RVsOk K M1 σ ρ1 H0 H1 vs rs := by
  induction c with
  | nil => exact .nil
  | cons a b c ih => exact .cons (a.post S P s) b ih
theorem settleL_ok : ∀ {rs : List RV} {vs : List V} {xs : List D} {M : Addr → Prop} {ρ ρ' : Ev} (S : Sim K p0 M σ H ρ), RVsOk K M σ ρ H0 H vs rs → settleL ρ rs = some (xs, ρ') → ∃ M', Post K p0 M σ H ρ M' σ H ρ' ∧ Slots ρ ρ' ∧ RepL K M' H vs xs
  | [], _, _, M, ρ, _, S, .nil, e => by
    cases e
    exact ⟨M, Post.refl S, Slots.refl ρ, .nil⟩
  | r :: rs, _, _, M, ρ, ρ', S, .cons a b c, e => by
    unfold settleL at e
    split at e
    · rename_i x ρ1 e1
      split at e
      · rename_i xs ρ2 e2
        cases e
        obtain ⟨M1, P1, S1, R1⟩ := settle_ok S a b e1
        obtain ⟨M2, P2, S2, R2⟩ := settleL_ok P1.sim (c.post S P1 S1) e2
        exact ⟨M2, P1.trans S P2, S1.trans S2, .cons (R1.keep (P2.keep P1.sim)) R2⟩
      · cases e
    · cases e
end

/-! ### displays -/
def tTup' (ta : AT) : ET := fun ρ q x => ta ρ (fun rs ρ1 => some! (settleL ρ1 rs) fun z => z.1.length ≤ 1000 ∧ q (.d (.tup z.1)) z.2) x
def tLst' (ta : AT) : ET := fun ρ q x => ta ρ (fun rs ρ1 => some! (settleL ρ1 rs) fun z => z.1.length ≤ 1000 ∧ q (.n (.lst z.1)) z.2) x
theorem sz1000 {n : Nat} (h : n ≤ 1000) : n ≤ sizeLine := Nat.le_of_lt (small1000 h)
section
variable {X : Cx} {p : Option Addr} {W : WX} {es : List Expr} {t : AT} {pos : Pos}
theorem de_tup {x1} (h : DA X p W es t) : DE X p W (.Tuple es x1 pos) (tTup' t) := ⟨PE.imp (pe_tup h.pa) fun σ H Q ⟨M, ρ, q, xq, S, ht, hq, hx⟩ => by
  refine ⟨M, ρ, _, _, S, ht, fun vs M1 H1 ρ1 rs P1 S1 R1 h1 => ?_, hx⟩
  obtain ⟨⟨ds, ρ2⟩, e, hl, h2⟩ := some!_ok h1
  obtain ⟨M2, P2, S2, R2⟩ := settleL_ok P1.sim R1 e
  refine ⟨by rw [R2.length]; exact sz1000 hl, fun l hp => ?_⟩
  obtain ⟨P3, R3⟩ := (ResOk.tup P2.sim.mok hp R2).fin S (P1.trans S P2)
  exact hq _ _ _ ρ2 _ P3 (S1.trans S2) R3 h2⟩
theorem de_lst (h : DA X p W es t) : DE X p W (.List es pos) (tLst' t) := ⟨PE.imp (pe_lst h.pa) fun σ H Q ⟨M, ρ, q, xq, S, ht, hq, hx⟩ => by
  refine ⟨M, ρ, _, _, S, ht, fun vs M1 H1 ρ1 rs P1 S1 R1 h1 => ?_, hx⟩
  obtain ⟨⟨ds, ρ2⟩, e, hl, h2⟩ := some!_ok h1
  obtain ⟨M2, P2, S2, R2⟩ := settleL_ok P1.sim R1 e
  refine ⟨by rw [R2.length]; exact sz1000 hl, fun l hp => ?_⟩
  obtain ⟨P3, R3⟩ := (ResOk.lst P2.sim.mok hp R2).fin S (P1.trans S P2)
  exact hq _ _ _ ρ2 _ P3 (S1.trans S2) R3 h2⟩
end

/-! ### tuple(xs), list(xs) -/
def fTuple : List D → (RV → Prop) → Prop := fun ds q => match ds with
  | [.lst xs] => q (.d (.tup xs))
  | [.tup xs] => q (.d (.tup xs))
  | _ => False
theorem tuple_ok {K : PySem.W.Frag} : RCD K (fun xs H Q => ∃ p ys, xs = [.ref p] ∧ ((SqL K H p ys ∧ ∀ l, H l = none → Q (.ref l) (upd H l (.tup ys))) ∨ (SqT K H p ys ∧ Q (.ref p) H))) fTuple := by
  intro M H vs ds Q q mok r h k
  unfold fTuple at h
  split at h
  · obtain ⟨v, rfl, s⟩ := r.one
    obtain ⟨p, xs, rfl, hx, t⟩ := s.lst
    exact ⟨p, xs, rfl, .inl ⟨SqL.of hx, fun l hl => k _ _ _ _ (ResOk.tup mok hl t) h⟩⟩
  · obtain ⟨v, rfl, s⟩ := r.one
    obtain ⟨p, xs, rfl, hx, t⟩ := s.tup
    exact ⟨p, xs, rfl, .inr ⟨hx.sq, k _ M H _ (ResOk.same mok (.tup hx t)) h⟩⟩
  · exact h.elim
def fList : List D → (RV → Prop) → Prop := fun ds q => match ds with
  | [.lst xs] => q (.n (.lst xs))
  | [.tup xs] => q (.n (.lst xs))
  | [.fz xs] => q (.n (.lst xs))
  | _ => False
theorem list_ok {K : PySem.W.Frag} : RCD K (fun xs H Q => ∃ p ys, xs = [.ref p] ∧ (SqL K H p ys ∨ SqT K H p ys) ∧ ∀ l, H l = none → Q (.ref l) (upd H l (.lst ys))) fList := by
  intro M H vs ds Q q mok r h k
  unfold fList at h
  split at h
  · obtain ⟨v, rfl, s⟩ := r.one
    obtain ⟨p, xs, rfl, hx, t⟩ := s.lst
    exact ⟨p, xs, rfl, .inl (SqL.of hx), fun l hl => k _ _ _ _ (ResOk.lst mok hl t) h⟩
  · obtain ⟨v, rfl, s⟩ := r.one
    obtain ⟨p, xs, rfl, hx, t⟩ := s.tup
    exact ⟨p, xs, rfl, .inr hx.sq, fun l hl => k _ _ _ _ (ResOk.lst mok hl t) h⟩
  · obtain ⟨v, rfl, s⟩ := r.one
    obtain ⟨p, xs, rfl, hx, t⟩ := s.fz
    exact ⟨p, xs, rfl, .inl hx.sq, fun l hl => k _ _ _ _ (ResOk.lst mok hl t) h⟩
  · exact h.elim

/-! ### slices -/
def oNone : Ev → (Option Int → Ev → Prop) → XQ → Prop := fun ρ q _ => q none ρ
def intR (ρ : Ev) (r : RV) : Option Int := match rd ρ r with
  | some (.int i) => some i
  | _ => none
def oSome (t : ET) : Ev → (Option Int → Ev → Prop) → XQ → Prop := fun ρ q x => t ρ (fun r ρ1 => some! (intR ρ1 r) fun i => q (some i) ρ1) x
abbrev OT := Ev → (Option Int → Ev → Prop) → XQ → Prop
def liftO (K : PySem.W.Frag) (p0 : Option Addr) (W : WX) (t : OT) : TO := fun σ H Q => ∃ (M : Addr → Prop) (ρ : Ev) (q : Option Int → Ev → Prop) (x : XQ), Sim K p0 M σ H ρ ∧ t ρ q x ∧
  (∀ o M' H' ρ', Post K p0 M σ H ρ M' σ H' ρ' → Slots ρ ρ' → q o ρ' → Q o H') ∧
  (∀ c M' H' ρ', Post K p0 M σ H ρ M' σ H' ρ' → x c ρ' → W (.ref c) none σ H')
structure DO' (X : Cx) (p0 : Option Addr) (W : WX) (e : Option Expr) (t : OT) : Prop where
  po : PO X e (liftO X.K p0 W t)
theorem PO.imp {X : Cx} {e : Option Expr} {t u : TO} (h : PO X e t) (i : ∀ σ H Q, u σ H Q → t σ H Q) : PO X e u := ⟨fun pins s σ H Q I hu => h.run pins s σ H Q I (i σ H Q hu)⟩
theorem intR_ok {ρ : Ev} {r : RV} {i : Int} (h : intR ρ r = some i) : rd ρ r = some (.int i) := by
  unfold intR at h
  cases e : rd ρ r with
  | none => simp only [e] at h; cases h
  | some d =>
    simp only [e] at h
    cases d with
    | int j => cases h; rfl
    | _ => cases h
section
variable {X : Cx} {p : Option Addr} {W : WX} {e : Expr} {lo hi : Option Expr} {te : ET} {tl th : OT} {pos p2 : Pos}
theorem do_none : DO' X p W none oNone := ⟨PO.imp po_none fun σ H Q ⟨M, ρ, q, xq, S, ht, hq, hx⟩ => hq none M H ρ (Post.refl S) (Slots.refl ρ) ht⟩
theorem do_some (h : DE X p W e te) : DO' X p W (some e) (oSome te) := ⟨PO.imp (po_some h.pe) fun σ H Q ⟨M, ρ, q, xq, S, ht, hq, hx⟩ => by
  refine ⟨M, ρ, _, _, S, ht, fun v M1 H1 ρ1 r1 P1 S1 R1 h1 => ?_, hx⟩
  obtain ⟨i, e1, h2⟩ := some!_ok h1
  exact ⟨i, (rd_ok P1.sim R1 (intR_ok e1)).int, hq _ M1 H1 ρ1 P1 S1 h2⟩⟩
def cutD (xs : List D) (lo hi : Option Int) : List D := (xs.drop (HT.sIx xs.length 0 lo)).take (HT.sIx xs.length xs.length hi - HT.sIx xs.length 0 lo)
theorem RepL.cut {K : PySem.W.Frag} {M : Addr → Prop} {H : Hp} {xs : List V} {ds : List D} (r : RepL K M H xs ds) (lo hi : Option Int) : RepL K M H (cutV xs lo hi) (cutD ds lo hi) := by
  unfold cutV cutD
  rw [r.length]
  exact (r.drop _).take _
def fSl (d : D) (lo hi : Option Int) (q : RV → Prop) : Prop := match d with
  | .lst xs => q (.n (.lst (cutD xs lo hi)))
  | .tup xs => q (.d (.tup (cutD xs lo hi)))
  | .str z => z.length ≤ sizeLine ∧ q (.d (.str (cutS z lo hi)))
  | _ => False
def tSl' (te : ET) (tl th : OT) : ET := fun ρ q x => te ρ (fun r ρ1 => tl ρ1 (fun lo ρ2 => th ρ2 (fun hi ρ3 => f1 (fun d k => fSl d lo hi k) (rd ρ3 r) fun z => q z ρ3) x) x) x
def rSlAll (K : PySem.W.Frag) : V → Option Int → Option Int → Hp → VK → Prop := fun x lo hi H Q => rSlL K x lo hi H Q ∨ rSlA K x lo hi H Q ∨ rSlS x lo hi H Q
theorem sl_all {X : Cx} : SlR X (rSlAll X.K) := sl_list.or (sl_tupA.or sl_str)
theorem cutV_whole (xs : List V) (lo hi : Option Int) (h : HT.sIx xs.length 0 lo = 0 ∧ HT.sIx xs.length xs.length hi = xs.length) : cutV xs lo hi = xs := by
  unfold cutV
  rw [h.1, h.2, List.drop_zero, Nat.sub_zero, List.take_length]
theorem de_slice (he : DE X p W e te) (hl : DO' X p W lo tl) (hu : DO' X p W hi th) : DE X p W (.Subscript e (.Slice lo hi none p2) pos) (tSl' te tl th) := ⟨PE.imp (pe_slice sl_all he.pe hl.po hu.po) fun σ H Q ⟨M, ρ, q, xq, S, ht, hq, hx⟩ => by
  refine ⟨M, ρ, _, _, S, ht, fun v M1 H1 ρ1 r1 P1 S1 R1 h1 => ?_, hx⟩
  refine ⟨M1, ρ1, _, _, P1.sim, h1, fun lo M2 H2 ρ2 P2 S2 h2 => ?_, fun c M2 H2 ρ2 P2 h2 => hx c M2 H2 ρ2 (P1.trans S P2) h2⟩
  have P2' := P1.trans S P2
  refine ⟨M2, ρ2, _, _, P2.sim, h2, fun hi M3 H3 ρ3 P3 S3 h3 => ?_, fun c M3 H3 ρ3 P3 h3 => hx c M3 H3 ρ3 (P2'.trans S P3) h3⟩
  have P3' := P2'.trans S P3
  obtain ⟨d, e1, h4⟩ := f1_ok h3
  have rc := rd_ok P3.sim ((R1.post P1.sim P2 S2).post P2.sim P3 S3) e1
  have k : ∀ w M4 H4 z, ResOk X.K M3 H3 M4 H4 w z → q z ρ3 → Q w H4 := fun w M4 H4 z ok hz => by
    obtain ⟨P4, R4⟩ := ok.fin S P3'
    exact hq w M4 H4 ρ3 z P4 ((S1.trans S2).trans S3) R4 hz
  cases d with
  | lst ds =>
    obtain ⟨a, xs, rfl, hx, r⟩ := rc.lst
    exact .inl ⟨a, xs, rfl, SqL.of hx, fun l hp => k _ _ _ _ (ResOk.lst P3.sim.mok hp (r.cut lo hi)) h4⟩
  | tup ds =>
    obtain ⟨a, xs, rfl, hx, r⟩ := rc.tup
    refine .inr (.inl ⟨a, xs, rfl, hx.sq, fun hw => ?_, fun _ l hp => k _ _ _ _ (ResOk.tup P3.sim.mok hp (r.cut lo hi)) h4⟩)
    have rr := r.cut lo hi
    rw [cutV_whole xs lo hi hw] at rr
    exact k _ M3 H3 _ (ResOk.same P3.sim.mok (.tup hx rr)) h4
  | str z =>
    rw [rc.str]
    exact .inr (.inr ⟨z, rfl, h4.1, k _ M3 H3 _ (ResOk.same P3.sim.mok (.str _)) h4.2⟩)
  | _ => exact h4.elim⟩
end
end DL

set_option Elab.async false
set_option linter.all false
set_option maxRecDepth 100000
set_option maxHeartbeats 4000000
namespace DL
open PySem PySem.Spec PyProof.Rows L2

section
variable {K : PySem.W.Frag} {p0 : Option Addr} {M0 M : Addr → Prop} {σ0 σ : L2.St} {H0 H : Hp} {ρ0 ρ ρ' : Ev} {v : V} {i : Nat} {x : D} {r : RV}
theorem settleN_ok (S0 : Sim K p0 M0 σ0 H0 ρ0) (P : Post K p0 M0 σ0 H0 ρ0 M σ H ρ) (ok : RVok K M σ ρ H0 H v r) (e : settle ρ r = some (x, ρ')) : ∃ M', Post K p0 M0 σ0 H0 ρ0 M' σ H ρ' ∧ Slots ρ ρ' ∧ Rep K M' H v x := by
  obtain ⟨M1, P1, R1⟩ := cool_ok S0 P ok
  have e1 : settle ρ (cool r) = some (x, ρ') := by
    cases r with
    | d y => exact e
    | n y => exact e
    | o i => exact e
  obtain ⟨M2, P2, S2, R2⟩ := settle_ok P1.sim R1 (cool_n r) e1
  exact ⟨M2, P1.trans S0 P2, S2, R2⟩

/-! ### slots stored -/
theorem set_get {σ : L2.St} {i j : Nat} {s t : Option V} (h : (σ.set i s)[j]? = some t) : (j = i ∧ t = s) ∨ (j ≠ i ∧ σ[j]? = some t) := by
  by_cases e : j = i
  · subst e
    left
    refine ⟨rfl, ?_⟩
    by_cases hl : j < σ.length
    · rw [List.getElem?_set_self hl] at h
      exact (Option.some.inj h).symm
    · rw [List.getElem?_eq_none (by rw [List.length_set]; omega)] at h
      cases h
  · right
    rw [List.getElem?_set_ne (Ne.symm e)] at h
    exact ⟨e, h⟩
theorem set_self {σ : L2.St} {ρ : Ev} {i : Nat} {s : Option V} {t u : Sl} (len : ρ.length = σ.length) (h : (ρ.set i t)[i]? = some u) : (σ.set i s)[i]? = some s := by
  have : i < (ρ.set i t).length := (List.getElem?_eq_some_iff.mp h).1
  rw [List.length_set, len] at this
  exact List.getElem?_set_self this
theorem set_other {σ : L2.St} {i j : Nat} {s : Option V} {t : Option V} (hj : j ≠ i) (h : σ[j]? = some t) : (σ.set i s)[j]? = some t := by
  rw [List.getElem?_set_ne (Ne.symm hj)]
  exact h
theorem store_va (S : Sim K p0 M σ H ρ) (R : Rep K M H v x) : Post K p0 M σ H ρ M (σ.set i (some v)) H (ρ.set i (.va x)) := by
  have old : ∀ {j : Nat} {d : D} {q : Addr}, ((ρ.set i (.va x))[j]? = some (.ow d) ∨ (ρ.set i (.va x))[j]? = some (.io d)) → (σ.set i (some v))[j]? = some (some (.ref q)) → (ρ[j]? = some (.ow d) ∨ ρ[j]? = some (.io d)) ∧ σ[j]? = some (some (.ref q)) ∧ j ≠ i := fun {j d q} h h2 => by
    have z : (ρ[j]? = some (.ow d) ∨ ρ[j]? = some (.io d)) ∧ j ≠ i := by
      rcases h with h | h
      · rcases get_set h with ⟨_, e⟩ | ⟨hj, e⟩
        · cases e
        · exact ⟨.inl e, hj⟩
      · rcases get_set h with ⟨_, e⟩ | ⟨hj, e⟩
        · cases e
        · exact ⟨.inr e, hj⟩
    refine ⟨z.1, ?_, z.2⟩
    rcases set_get h2 with ⟨e, _⟩ | ⟨_, e⟩
    · exact absurd e z.2
    · exact e
  refine ⟨⟨by rw [List.length_set, List.length_set]; exact S.len, fun j d e => ?_, fun j d e => ?_, fun j d e => ?_, fun j l d e q h1 h2 h3 h4 => ?_, S.mok, S.p0k⟩, Step.refl, fun a ⟨j, d, h1, h2⟩ => .inl ⟨j, d, (old h1 h2).1, (old h1 h2).2.1⟩⟩
  · rcases get_set e with ⟨e1, e2⟩ | ⟨hj, e'⟩
    · cases e2
      subst e1
      exact ⟨v, set_self S.len e, R⟩
    · obtain ⟨u, e1, r⟩ := S.va j d e'
      exact ⟨u, set_other hj e1, r⟩
  · rcases get_set e with ⟨e1, e2⟩ | ⟨hj, e'⟩
    · cases e2
    · obtain ⟨q, e1, m, o, n⟩ := S.ow j d e'
      exact ⟨q, set_other hj e1, m, o, n⟩
  · rcases get_set e with ⟨e1, e2⟩ | ⟨hj, e'⟩
    · cases e2
    · obtain ⟨q, e1, m, o, n⟩ := S.io j d e'
      exact ⟨q, set_other hj e1, m, o, n⟩
  · exact S.inj j l d e q (old h1 h3).1 (old h2 h4).1 (old h1 h3).2.1 (old h2 h4).2.1
theorem store_ow (S : Sim K p0 M σ H ρ) {p : Addr} (m : M p) (nw : ¬ Wr σ ρ p) (o : Own K M H p x) (n0 : p0 ≠ some p) (hp : ∀ H00 : Hp, H00 p = none → True) :
    Sim K p0 M (σ.set i (some (.ref p))) H (ρ.set i (.ow x)) ∧ ∀ a, Wr (σ.set i (some (.ref p))) (ρ.set i (.ow x)) a → Wr σ ρ a ∨ a = p := by
  have old : ∀ {j : Nat} {d : D} {q : Addr}, ((ρ.set i (.ow x))[j]? = some (.ow d) ∨ (ρ.set i (.ow x))[j]? = some (.io d)) → (σ.set i (some (.ref p)))[j]? = some (some (.ref q)) → ((ρ[j]? = some (.ow d) ∨ ρ[j]? = some (.io d)) ∧ σ[j]? = some (some (.ref q)) ∧ j ≠ i) ∨ (j = i ∧ q = p) := fun {j d q} h h2 => by
    rcases set_get h2 with ⟨e, e3⟩ | ⟨hj, e⟩
    · cases e3
      exact .inr ⟨e, rfl⟩
    · left
      refine ⟨?_, e, hj⟩
      rcases h with h | h
      · rcases get_set h with ⟨e, _⟩ | ⟨_, e⟩
        · exact absurd e hj
        · exact .inl e
      · rcases get_set h with ⟨e, _⟩ | ⟨_, e⟩
        · exact absurd e hj
        · exact .inr e
  refine ⟨⟨by rw [List.length_set, List.length_set]; exact S.len, fun j d e => ?_, fun j d e => ?_, fun j d e => ?_, fun j l d e q h1 h2 h3 h4 => ?_, S.mok, S.p0k⟩, fun a ⟨j, d, h1, h2⟩ => ?_⟩
  · rcases get_set e with ⟨e1, e2⟩ | ⟨hj, e'⟩
    · cases e2
    · obtain ⟨u, e1, r⟩ := S.va j d e'
      exact ⟨u, set_other hj e1, r⟩
  · rcases get_set e with ⟨e1, e2⟩ | ⟨hj, e'⟩
    · cases e2
      subst e1
      exact ⟨p, set_self S.len e, m, o, n0⟩
    · obtain ⟨q, e1, m, o, n⟩ := S.ow j d e'
      exact ⟨q, set_other hj e1, m, o, n⟩
  · rcases get_set e with ⟨e1, e2⟩ | ⟨hj, e'⟩
    · cases e2
    · obtain ⟨q, e1, m, o, n⟩ := S.io j d e'
      exact ⟨q, set_other hj e1, m, o, n⟩
  · rcases old h1 h3 with ⟨a1, a2, _⟩ | ⟨a1, a2⟩
    · rcases old h2 h4 with ⟨b1, b2, _⟩ | ⟨b1, b2⟩
      · exact S.inj j l d e q a1 b1 a2 b2
      · subst b2
        exact absurd ⟨j, d, a1, a2⟩ nw
    · rcases old h2 h4 with ⟨b1, b2, _⟩ | ⟨b1, b2⟩
      · subst a2
        exact absurd ⟨l, e, b1, b2⟩ nw
      · rw [a1, b1]
  · rcases old h1 h2 with ⟨a1, a2, _⟩ | ⟨a1, a2⟩
    · exact .inl ⟨j, d, a1, a2⟩
    · exact .inr a2
/-- a result stored in a slot -/
def storeS (i j : Nat) (ρ : Ev) : Option Sl → Option Ev
  | some (.va x) => some (ρ.set i (.va x))
  | some (.ow x) => some ((ρ.set j (.va x)).set i (.va x))
  | _ => none
def store (i : Nat) (ρ : Ev) : RV → Option Ev
  | .d x => some (ρ.set i (.va x))
  | .n x => some (ρ.set i (.ow x))
  | .o j => storeS i j ρ ρ[j]?
theorem store_ok (S0 : Sim K p0 M0 σ0 H0 ρ0) (P : Post K p0 M0 σ0 H0 ρ0 M σ H ρ) (ok : RVok K M σ ρ H0 H v r) (e : store i ρ r = some ρ') : ∃ M', Post K p0 M0 σ0 H0 ρ0 M' (σ.set i (some v)) H ρ' := by
  cases r with
  | d x =>
    cases e
    exact ⟨M, P.trans S0 (store_va P.sim ok)⟩
  | n x =>
    cases e
    obtain ⟨p, rfl, m, nw, f, o⟩ := ok
    obtain ⟨S1, w1⟩ := store_ow (i := i) P.sim m nw o (fun z => S0.p0k p z f) (fun _ _ => trivial)
    refine ⟨M, S1, P.step, fun a h => ?_⟩
    rcases w1 a h with h | h
    · exact P.wr a h
    · exact .inr (h ▸ f)
  | o j =>
    have e' : storeS i j ρ ρ[j]? = some ρ' := e
    have key : ∀ {x ρ1}, settle ρ (.o j) = some (x, ρ1) → ρ' = ρ1.set i (.va x) → ∃ M', Post K p0 M0 σ0 H0 ρ0 M' (σ.set i (some v)) H ρ' := fun {x ρ1} h1 h2 => by
      obtain ⟨M2, P2, S2, R2⟩ := settleN_ok S0 P ok h1
      rw [h2]
      exact ⟨M2, P2.trans S0 (store_va P2.sim R2)⟩
    cases hy : ρ[j]? with
    | none => rw [hy] at e'; cases e'
    | some s =>
      rw [hy] at e'
      cases s with
      | va y =>
        cases e'
        exact key (x := y) (ρ1 := ρ) (by show settleS j ρ ρ[j]? = _; rw [hy]; rfl) rfl
      | ow y =>
        cases e'
        exact key (x := y) (ρ1 := ρ.set j (.va y)) (by show settleS j ρ ρ[j]? = _; rw [hy]; rfl) rfl
      | _ => cases e'

theorem upd_cold {H : Hp} {M : Addr → Prop} {p a : Addr} {o : HO} (mp : M p) (n : ¬ M a) : upd H p o a = H a := upd_ne fun z => n (by rw [z]; exact mp)
/-! ### a slot's own thing changed -/
def ownS : Option Sl → Option D
  | some (.ow x) => some x
  | some (.io x) => some x
  | _ => none
def putS (i : Nat) (x : D) (ρ : Ev) : Option Sl → Ev
  | some (.ow _) => ρ.set i (.ow x)
  | some (.io _) => ρ.set i (.io x)
  | _ => ρ
theorem own_at (S : Sim K p0 M σ H ρ) (h : ownS ρ[i]? = some x) : ∃ p, σ[i]? = some (some (.ref p)) ∧ M p ∧ Own K M H p x ∧ Wr σ ρ p := by
  cases hy : ρ[i]? with
  | none => rw [hy] at h; cases h
  | some s =>
    rw [hy] at h
    cases s with
    | ow y =>
      cases h
      obtain ⟨p, e, m, o, _⟩ := S.ow i _ hy
      exact ⟨p, e, m, o, i, _, .inl hy, e⟩
    | io y =>
      cases h
      obtain ⟨p, e, m, o, _⟩ := S.io i _ hy
      exact ⟨p, e, m, o, i, _, .inr hy, e⟩
    | _ => cases h
theorem put_kind {j : Nat} {s : Sl} {y : D} (h : ownS ρ[i]? = some x) (e : (putS i y ρ ρ[i]?)[j]? = some s) : (j ≠ i ∧ ρ[j]? = some s) ∨ (j = i ∧ ((∃ z, ρ[i]? = some (.ow z) ∧ s = .ow y) ∨ ∃ z, ρ[i]? = some (.io z) ∧ s = .io y)) := by
  cases hy : ρ[i]? with
  | none => rw [hy] at h; cases h
  | some t =>
    rw [hy] at h e
    cases t with
    | ow z =>
      rcases get_set (show (ρ.set i (.ow y))[j]? = some s from e) with ⟨e1, e2⟩ | ⟨e1, e2⟩
      · exact .inr ⟨e1, .inl ⟨z, rfl, e2⟩⟩
      · exact .inl ⟨e1, e2⟩
    | io z =>
      rcases get_set (show (ρ.set i (.io y))[j]? = some s from e) with ⟨e1, e2⟩ | ⟨e1, e2⟩
      · exact .inr ⟨e1, .inr ⟨z, rfl, e2⟩⟩
      · exact .inl ⟨e1, e2⟩
    | _ => cases h
theorem put_wr {y : D} (h : ownS ρ[i]? = some x) {a : Addr} (w : Wr σ (putS i y ρ ρ[i]?) a) : Wr σ ρ a := by
  obtain ⟨j, d, h1, h2⟩ := w
  rcases h1 with h1 | h1
  · rcases put_kind h h1 with ⟨_, e⟩ | ⟨rfl, ⟨z, e, _⟩ | ⟨z, e, _⟩⟩
    · exact ⟨j, d, .inl e, h2⟩
    · exact ⟨j, z, .inl e, h2⟩
    · exact ⟨j, z, .inr e, h2⟩
  · rcases put_kind h h1 with ⟨_, e⟩ | ⟨rfl, ⟨z, e, _⟩ | ⟨z, e, _⟩⟩
    · exact ⟨j, d, .inr e, h2⟩
    · exact ⟨j, z, .inl e, h2⟩
    · exact ⟨j, z, .inr e, h2⟩
theorem mut_gen {M' : Addr → Prop} {H' : Hp} (S : Sim K p0 M σ H ρ) {p : Addr} {y : D} (h : ownS ρ[i]? = some x) (hs : σ[i]? = some (some (.ref p))) (st : Step M (fun a => a = p) H M' H') (mok : ∀ a, M' a → H' a ≠ none) (mp' : M' p) (hy : Own K M' H' p y) : Post K p0 M σ H ρ M' σ H' (putS i y ρ ρ[i]?) := by
  obtain ⟨q, e, mp, op, wp⟩ := own_at S h
  rw [hs] at e; cases e
  have k : Keep M H M' H' := st.keep fun a z => by rw [z]; exact mp
  have len : (putS i y ρ ρ[i]?).length = ρ.length := by
    unfold putS
    split
    · exact List.length_set
    · exact List.length_set
    · rfl
  have old : ∀ {j : Nat} {d : D}, ((putS i y ρ ρ[i]?)[j]? = some (.ow d) ∨ (putS i y ρ ρ[i]?)[j]? = some (.io d)) → ∃ d', (ρ[j]? = some (.ow d') ∨ ρ[j]? = some (.io d')) := fun {j d} h1 => by
    rcases h1 with h1 | h1
    · rcases put_kind h h1 with ⟨_, e⟩ | ⟨rfl, ⟨z, e, _⟩ | ⟨z, e, _⟩⟩
      · exact ⟨d, .inl e⟩
      · exact ⟨z, .inl e⟩
      · exact ⟨z, .inr e⟩
    · rcases put_kind h h1 with ⟨_, e⟩ | ⟨rfl, ⟨z, e, _⟩ | ⟨z, e, _⟩⟩
      · exact ⟨d, .inr e⟩
      · exact ⟨z, .inl e⟩
      · exact ⟨z, .inr e⟩
  have hself : ∃ d', (ρ[i]? = some (.ow d') ∨ ρ[i]? = some (.io d')) := by
    cases hy : ρ[i]? with
    | none => rw [hy] at h; cases h
    | some t =>
      cases t with
      | ow z => exact ⟨z, .inl rfl⟩
      | io z => exact ⟨z, .inr rfl⟩
      | _ => rw [hy] at h; cases h
  have ne : ∀ {j : Nat} {d : D} {q : Addr}, j ≠ i → (ρ[j]? = some (.ow d) ∨ ρ[j]? = some (.io d)) → σ[j]? = some (some (.ref q)) → q ≠ p := fun {j d q} hj h1 h2 e => by
    subst e
    obtain ⟨d', hd⟩ := hself
    exact hj (S.inj j i d d' q h1 hd h2 hs)
  refine ⟨⟨by rw [len]; exact S.len, fun j d e => ?_, fun j d e => ?_, fun j d e => ?_, fun j l d e q h1 h2 h3 h4 => ?_, mok, fun q z => st.dom q (S.p0k q z)⟩, st.weak fun a z => by rw [z]; exact wp, fun a ⟨j, d, h1, h2⟩ => ?_⟩
  · rcases put_kind h e with ⟨hj, e'⟩ | ⟨_, ⟨z, _, e'⟩ | ⟨z, _, e'⟩⟩
    · obtain ⟨u, e1, r⟩ := S.va j d e'
      exact ⟨u, e1, r.keep k⟩
    · cases e'
    · cases e'
  · rcases put_kind h e with ⟨hj, e'⟩ | ⟨rfl, ⟨z, e1, e'⟩ | ⟨z, _, e'⟩⟩
    · obtain ⟨q, e1, m, oo, n⟩ := S.ow j d e'
      have nq := ne hj (.inl e') e1
      exact ⟨q, e1, st.kp q m nq, oo.keep k fun u eu => st.fr q u eu nq, n⟩
    · cases e'
      obtain ⟨q, e2, m, oo, n⟩ := S.ow _ _ e1
      rw [hs] at e2; cases e2
      exact ⟨p, hs, mp', hy, n⟩
    · cases e'
  · rcases put_kind h e with ⟨hj, e'⟩ | ⟨rfl, ⟨z, e1, e'⟩ | ⟨z, e1, e'⟩⟩
    · obtain ⟨q, e1, m, oo, n⟩ := S.io j d e'
      have nq := ne hj (.inr e') e1
      exact ⟨q, e1, st.kp q m nq, oo.keep k fun u eu => st.fr q u eu nq, n⟩
    · cases e'
    · cases e'
      obtain ⟨q, e2, m, oo, n⟩ := S.io _ _ e1
      rw [hs] at e2; cases e2
      exact ⟨p, hs, mp', hy, n⟩
  · obtain ⟨d1, o1⟩ := old h1
    obtain ⟨d2, o2⟩ := old h2
    exact S.inj j l d1 d2 q o1 o2 h3 h4
  · obtain ⟨d1, o1⟩ := old h1
    exact .inl ⟨j, d1, o1, h2⟩
theorem mut_ok (S : Sim K p0 M σ H ρ) {p : Addr} {o : HO} {y : D} (h : ownS ρ[i]? = some x) (hs : σ[i]? = some (some (.ref p))) (hy : Own K M (upd H p o) p y) : Post K p0 M σ H ρ M σ (upd H p o) (putS i y ρ ρ[i]?) := by
  obtain ⟨q, e, mp, op, wp⟩ := own_at S h
  rw [hs] at e; cases e
  have dom : ∀ a, H a ≠ none → upd H p o a ≠ none := fun a ha => by
    by_cases e : a = p
    · rw [e, upd_same]; exact fun z => nomatch z
    · rw [upd_ne e]; exact ha
  exact mut_gen S h hs ⟨fun a u e n => by rw [upd_ne n]; exact e, fun a z => .inl z, fun a z _ => z, dom⟩ (fun a z => dom a (S.mok a z)) mp hy
theorem put_slots (_ : ownS ρ[i]? = some x) (y : D) : Slots ρ (putS i y ρ ρ[i]?) := trivial
end

/-! ### methods of a slot's own list -/
def ownL (ρ : Ev) : RV → Option (Nat × List D)
  | .o i => match ownS ρ[i]? with
    | some (.lst xs) => some (i, xs)
    | _ => none
  | _ => none
theorem ownL_ok {ρ : Ev} {r : RV} {i : Nat} {xs : List D} (h : ownL ρ r = some (i, xs)) : r = .o i ∧ ownS ρ[i]? = some (.lst xs) := by
  cases r with
  | o j =>
    unfold ownL at h
    simp only at h
    split at h
    · rename_i ys e
      cases h
      exact ⟨rfl, e⟩
    · cases h
  | _ => cases h
def put (i : Nat) (x : D) (ρ : Ev) : Ev := putS i x ρ ρ[i]?
def tAppend (to : ET) (ta : AT) : ET := fun ρ q x => to ρ (fun r ρ1 => some! (ownL ρ1 r) fun _ => ta ρ1 (fun rs ρ2 => some! (settleL ρ2 rs) fun z => match z.1 with
  | [y] => some! (ownL z.2 r) fun a => a.2.length < sizeLine ∧ q (.d .non) (put a.1 (.lst (a.2 ++ [y])) z.2)
  | _ => False) x) x
def tPop (to : ET) : ET := fun ρ q x => to ρ (fun r ρ1 => some! (ownL ρ1 r) fun a => some! a.2[a.2.length - 1]? fun y => q (.d y) (put a.1 (.lst a.2.dropLast) ρ1)) x
section
variable {X : Cx} {p : Option Addr} {W : WX} {o e : Expr} {es : List Expr} {to : ET} {t : AT} {apos cpos : Pos}
theorem de_append (ho : DE X p W o to) (ha : DA X p W (e :: es) t)
    (hbase : attributeBase o "append" X.env (eval o X.env) = eval o X.env := by rfl)
    (hfew : ((backTo cpos (starEach (e :: es) X.env)).all (fun x => !x.1) && (backToKw cpos (keywordEach [] X.env)).all (fun x => x.1.isSome)
      && decide ((e :: es).length + ([] : List Keyword).length + (if ([] : List Keyword).isEmpty then 0 else 1) < 30)) = true := by rfl)
    (hline : (apos.endLine == cpos.line) = true := by rfl) (hs : starEach (e :: es) X.env = (false, eval e X.env) :: starEach es X.env := by rfl) (hplain : (backTo cpos (starEach es X.env)).any (·.1) = false := by rfl) :
    DE X p W (.Call (.Attribute o "append" apos) (e :: es) [] cpos) (tAppend to t) :=
  ⟨PE.imp (pe_bm PySem.F.plainAttrs_list PySem.F.slot_list_append PySem.F.type_list_append mt_append ho.pe ha.pa hbase hfew hline hs hplain) fun σ H Q ⟨M, ρ, q, xq, S, ht, hq, hx⟩ => by
    refine ⟨M, ρ, _, _, S, ht, fun v M1 H1 ρ1 r1 P1 S1 R1 h1 => ?_, hx⟩
    obtain ⟨⟨i, xs⟩, e1, h2⟩ := some!_ok h1
    obtain ⟨rfl, eo⟩ := ownL_ok e1
    obtain ⟨a, hs1, m1, o1, w1⟩ := own_at P1.sim eo
    obtain ⟨vs0, hv0, r0⟩ := o1
    obtain rfl : v = .ref a := by
      have z := R1.1
      rw [hs1] at z
      cases z
      rfl
    refine ⟨.inl ⟨rfl, vs0, SqL.of hv0⟩, M1, ρ1, _, _, P1.sim, h2, fun vs M2 H2 ρ2 rs P2 S2 R2 h3 => ?_, fun c M2 H2 ρ2 P2 h3 => hx c M2 H2 ρ2 (P1.trans S P2) h3⟩
    obtain ⟨⟨ds, ρ3⟩, e2, h4⟩ := some!_ok h3
    obtain ⟨M3, P3, S3, R3⟩ := settleL_ok P2.sim R2 e2
    simp only at h4
    split at h4
    · rename_i y
      obtain ⟨⟨i', xs2⟩, e3, hl, h5⟩ := some!_ok h4
      obtain ⟨e4, eo2⟩ := ownL_ok e3
      cases e4
      obtain ⟨a2, hs2, m2, ⟨vs2, hv2, r2⟩, w2⟩ := own_at P3.sim eo2
      rw [hs1] at hs2
      cases hs2
      cases R3 with
      | cons ry rn =>
        cases rn
        rename_i u
        refine ⟨a, vs2, u, rfl, rfl, hv2, by rw [r2.length]; exact hl, ?_⟩
        have k : Keep M3 H2 M3 (upd H2 a (.lst (vs2 ++ [u]))) := fun b w e n => ⟨by rw [upd_cold m2 n]; exact e, n⟩
        have P4 := mut_ok P3.sim eo2 hs1 (o := .lst (vs2 ++ [u])) (y := .lst (xs2 ++ [y])) ⟨_, upd_same, (r2.keep k).append (.cons (ry.keep k) .nil)⟩
        exact hq .non M3 _ _ (.d .non) (((P1.trans S P2).trans S P3).trans S P4) (((S1.trans S2).trans S3).trans (put_slots eo2 _)) (RVok.dd .non) h5
    · exact h4.elim⟩
theorem de_pop (ho : DE X p W o to) (hbase : attributeBase o "pop" X.env (eval o X.env) = eval o X.env := by rfl) (hline : (apos.endLine == cpos.line) = true := by rfl) :
    DE X p W (.Call (.Attribute o "pop" apos) [] [] cpos) (tPop to) :=
  ⟨PE.imp (pe_bm0 PySem.F.plainAttrs_list PySem.F.slot_list_pop PySem.F.type_list_pop mt_pop ho.pe hbase hline) fun σ H Q ⟨M, ρ, q, xq, S, ht, hq, hx⟩ => by
    refine ⟨M, ρ, _, _, S, ht, fun v M1 H1 ρ1 r1 P1 S1 R1 h1 => ?_, hx⟩
    obtain ⟨⟨i, xs⟩, e1, h2⟩ := some!_ok h1
    obtain ⟨rfl, eo⟩ := ownL_ok e1
    obtain ⟨a, hs1, m1, ⟨vs0, hv0, r0⟩, w1⟩ := own_at P1.sim eo
    obtain rfl : v = .ref a := by
      have z := R1.1
      rw [hs1] at z
      cases z
      rfl
    obtain ⟨y, ey, h3⟩ := some!_ok h2
    have ey : xs[xs.length - 1]? = some y := ey
    obtain ⟨u, eu, ru⟩ := r0.get ey
    refine ⟨.inl ⟨rfl, vs0, SqL.of hv0⟩, a, vs0, u, rfl, rfl, hv0, by rw [r0.length]; exact eu, ?_⟩
    have k : Keep M1 H1 M1 (upd H1 a (.lst vs0.dropLast)) := fun b w e n => ⟨by rw [upd_cold m1 n]; exact e, n⟩
    have P4 := mut_ok P1.sim eo hs1 (o := .lst vs0.dropLast) (y := .lst xs.dropLast) ⟨_, upd_same, (r0.keep k).dropLast⟩
    exact hq u M1 _ _ (.d y) (P1.trans S P4) (S1.trans (put_slots eo _)) (RVok.dd (ru.keep k)) h3⟩
end
end DL

set_option Elab.async false
set_option linter.all false
set_option maxRecDepth 100000
set_option maxHeartbeats 4000000
namespace DL
open PySem PySem.Spec PyProof.Rows L2

structure SE where
  nx : Ev → Prop
  rt : RV → Ev → Prop
  bk : Ev → Prop
  ct : Ev → Prop
  xc : XQ
abbrev ST := SE → Ev → Prop
/-- what a def gives back -/
def RetOk (K : PySem.W.Frag) (p0 : Option Addr) (M' : Addr → Prop) (σ : L2.St) (H : Hp) (ρ : Ev) (H' : Hp) (v : V) : RV → Prop
  | .d x => Rep K M' H' v x
  | .n x => ∃ p, v = .ref p ∧ M' p ∧ Own K M' H' p x ∧ (H p = none ∨ Wr σ ρ p) ∧ p0 ≠ some p
  | .o _ => False
theorem RetOk.dd {K : PySem.W.Frag} {p0 : Option Addr} {M' : Addr → Prop} {σ : L2.St} {H : Hp} {ρ : Ev} {H' : Hp} {v : V} {x : D} (h : Rep K M' H' v x) : RetOk K p0 M' σ H ρ H' v (.d x) := h
structure Lk (K : PySem.W.Frag) (p0 : Option Addr) (W : WX) (M : Addr → Prop) (σ : L2.St) (H : Hp) (ρ : Ev) (e : SE) (D : Ends) : Prop where
  nx : ∀ M' σ' H' ρ', Post K p0 M σ H ρ M' σ' H' ρ' → e.nx ρ' → D.nx σ' H'
  bk : ∀ M' σ' H' ρ', Post K p0 M σ H ρ M' σ' H' ρ' → e.bk ρ' → D.bk σ' H'
  ct : ∀ M' σ' H' ρ', Post K p0 M σ H ρ M' σ' H' ρ' → e.ct ρ' → D.ct σ' H'
  rt : ∀ v M' σ' H' ρ' r, Post K p0 M σ H ρ M' σ' H' ρ' → RetOk K p0 M' σ H ρ H' v r → e.rt r ρ' → D.rt v H'
  xc : ∀ c M' σ' H' ρ', Post K p0 M σ H ρ M' σ' H' ρ' → e.xc c ρ' → W (.ref c) none σ' H'
def liftS (K : PySem.W.Frag) (p0 : Option Addr) (W : WX) (t : ST) : TS := fun D σ H => ∃ (M : Addr → Prop) (ρ : Ev) (e : SE), Sim K p0 M σ H ρ ∧ t e ρ ∧ Lk K p0 W M σ H ρ e D
structure DS (X : Cx) (p0 : Option Addr) (W : WX) (st : Stmt) (t : ST) : Prop where
  ps : PS X st (liftS X.K p0 W t)
structure DSs (X : Cx) (p0 : Option Addr) (W : WX) (st : List Stmt) (t : ST) : Prop where
  pss : PSs X st (liftS X.K p0 W t)
section
variable {K : PySem.W.Frag} {p0 : Option Addr} {W : WX} {M M1 : Addr → Prop} {σ σ1 : L2.St} {H H1 : Hp} {ρ ρ1 : Ev} {e : SE} {D : Ends}
theorem RetOk.back (P : Post K p0 M σ H ρ M1 σ1 H1 ρ1) {M' : Addr → Prop} {H' : Hp} {v : V} {r : RV} (h : RetOk K p0 M' σ1 H1 ρ1 H' v r) : RetOk K p0 M' σ H ρ H' v r := by
  cases r with
  | d x => exact h
  | n x =>
    obtain ⟨p, e, m, o, w, n⟩ := h
    refine ⟨p, e, m, o, ?_, n⟩
    rcases w with w | w
    · exact .inl (dom_back P.step.dom w)
    · exact (P.wr p w).symm
  | o i => exact h
theorem Lk.after (S : Sim K p0 M σ H ρ) (l : Lk K p0 W M σ H ρ e D) (P : Post K p0 M σ H ρ M1 σ1 H1 ρ1) : Lk K p0 W M1 σ1 H1 ρ1 e D :=
  ⟨fun M' σ' H' ρ' P' h => l.nx M' σ' H' ρ' (P.trans S P') h, fun M' σ' H' ρ' P' h => l.bk M' σ' H' ρ' (P.trans S P') h, fun M' σ' H' ρ' P' h => l.ct M' σ' H' ρ' (P.trans S P') h,
   fun v M' σ' H' ρ' r P' R h => l.rt v M' σ' H' ρ' r (P.trans S P') (R.back P) h, fun c M' σ' H' ρ' P' h => l.xc c M' σ' H' ρ' (P.trans S P') h⟩
/-- another wish for what follows -/
theorem Lk.to (S : Sim K p0 M σ H ρ) (l : Lk K p0 W M σ H ρ e D) {n : Ev → Prop} {N : L2.St → Hp → Prop} (h : ∀ M' σ' H' ρ', Post K p0 M σ H ρ M' σ' H' ρ' → n ρ' → N σ' H') : Lk K p0 W M σ H ρ { e with nx := n } { D with nx := N } :=
  ⟨h, l.bk, l.ct, l.rt, l.xc⟩
end
section
variable {X : Cx} {p : Option Addr} {W : WX} {st : Stmt} {rest : List Stmt} {t u : ST} {e : Expr} {te : ET} {pos : Pos}
def sNext : ST := fun e ρ => e.nx ρ
def sSeq (t u : ST) : ST := fun e ρ => t { e with nx := u e } ρ
theorem dss_nil : DSs X p W [] sNext := ⟨PSs.imp pss_nil fun D σ H ⟨M, ρ, e, S, h, l⟩ => l.nx M σ H ρ (Post.refl S) h⟩
theorem dss_cons (h1 : DS X p W st t) (h2 : DSs X p W rest u) : DSs X p W (st :: rest) (sSeq t u) := ⟨PSs.imp (pss_cons h1.ps h2.pss) fun D σ H ⟨M, ρ, e, S, h, l⟩ =>
  ⟨M, ρ, _, S, h, l.to S fun M' σ' H' ρ' P h' => ⟨M', ρ', e, P.sim, h', l.after S P⟩⟩⟩
theorem dss_one (h1 : DS X p W st t) : DSs X p W [st] t := ⟨pss_one h1.ps⟩
theorem ds_pass : DS X p W (.Pass pos) sNext := ⟨PS.imp ps_pass fun D σ H ⟨M, ρ, e, S, h, l⟩ => l.nx M σ H ρ (Post.refl S) h⟩
def sBreak : ST := fun e ρ => e.bk ρ
def sCont : ST := fun e ρ => e.ct ρ
theorem ds_break : DS X p W (.Break pos) sBreak := ⟨PS.imp ps_break fun D σ H ⟨M, ρ, e, S, h, l⟩ => l.bk M σ H ρ (Post.refl S) h⟩
theorem ds_continue : DS X p W (.Continue pos) sCont := ⟨PS.imp ps_continue fun D σ H ⟨M, ρ, e, S, h, l⟩ => l.ct M σ H ρ (Post.refl S) h⟩
def sExpr (te : ET) : ST := fun e ρ => te ρ (fun _ ρ1 => e.nx ρ1) e.xc
theorem ds_expr (he : DE X p W e te) (hs : swapsWith e none pos.line X.env = pure false := by rfl) : DS X p W (.Expr e pos) (sExpr te) := ⟨PS.imp (ps_expr he.pe hs) fun D σ H ⟨M, ρ, e, S, h, l⟩ =>
  ⟨M, ρ, _, _, S, h, fun v M1 H1 ρ1 r P1 _ _ h1 => l.nx M1 σ H1 ρ1 P1 h1, fun c M1 H1 ρ1 P1 h1 => l.xc c M1 σ H1 ρ1 P1 h1⟩⟩
def retS : Option Sl → Option RV
  | some (.va x) => some (.d x)
  | some (.ow x) => some (.n x)
  | _ => none
def retR (ρ : Ev) : RV → Option RV
  | .d x => some (.d x)
  | .n x => some (.n x)
  | .o i => retS ρ[i]?
def sRet (te : ET) : ST := fun e ρ => te ρ (fun r ρ1 => some! (retR ρ1 r) fun z => e.rt z ρ1) e.xc
theorem ret_ok {K : PySem.W.Frag} {p0 : Option Addr} {M M1 : Addr → Prop} {σ : L2.St} {H H1 : Hp} {ρ ρ1 : Ev} {v : V} {r z : RV} (S : Sim K p0 M σ H ρ) (P : Post K p0 M σ H ρ M1 σ H1 ρ1) (R : RVok K M1 σ ρ1 H H1 v r) (h : retR ρ1 r = some z) : RetOk K p0 M1 σ H ρ H1 v z := by
  cases r with
  | d x => cases h; exact R
  | n x =>
    cases h
    obtain ⟨a, e, m, nw, f, o⟩ := R
    exact ⟨a, e, m, o, .inl f, fun z => S.p0k a z f⟩
  | o i =>
    have h : retS ρ1[i]? = some z := h
    obtain ⟨e1, _⟩ := R
    cases hy : ρ1[i]? with
    | none => rw [hy] at h; cases h
    | some s =>
      rw [hy] at h
      cases s with
      | va x =>
        cases h
        obtain ⟨v', e2, r⟩ := P.sim.va i x hy
        rw [e1] at e2; cases e2
        exact r
      | ow x =>
        cases h
        obtain ⟨a, e2, m, o, n⟩ := P.sim.ow i x hy
        rw [e1] at e2; cases e2
        exact ⟨a, rfl, m, o, (P.wr a ⟨i, x, .inl hy, e1⟩).symm, n⟩
      | _ => cases h
theorem ds_ret (he : DE X p W e te) : DS X p W (.Return (some e) pos) (sRet te) := ⟨PS.imp (ps_ret he.pe) fun D σ H ⟨M, ρ, e, S, h, l⟩ =>
  ⟨M, ρ, _, _, S, h, fun v M1 H1 ρ1 r P1 _ R1 h1 => by
    obtain ⟨z, e1, h2⟩ := some!_ok h1
    exact l.rt v M1 σ H1 ρ1 z P1 (ret_ok S P1 R1 e1) h2, fun c M1 H1 ρ1 P1 h1 => l.xc c M1 σ H1 ρ1 P1 h1⟩⟩
def sRetN : ST := fun e ρ => e.rt (.d .non) ρ
theorem ds_retN : DS X p W (.Return none pos) sRetN := ⟨PS.imp ps_retN fun D σ H ⟨M, ρ, e, S, h, l⟩ => l.rt .non M σ H ρ _ (Post.refl S) (RetOk.dd .non) h⟩
def sIf (c : BT) (t u : ST) : ST := fun e ρ => c ρ (fun b ρ1 => if b = true then t e ρ1 else u e ρ1) e.xc
theorem ds_if {c : Expr} {a b : List Stmt} {tc : BT} (hc : DB X p W c tc) (ha : DSs X p W a t) (hb : DSs X p W b u) : DS X p W (.If c a b pos) (sIf tc t u) := ⟨PS.imp (ps_if hc.pt ha.pss hb.pss) fun D σ H ⟨M, ρ, e, S, h, l⟩ => by
  refine ⟨M, ρ, _, _, S, h, fun k M1 H1 ρ1 P1 _ h1 => ?_, fun c M1 H1 ρ1 P1 h1 => l.xc c M1 σ H1 ρ1 P1 h1⟩
  cases k with
  | true =>
    rw [if_pos rfl] at h1 ⊢
    exact ⟨M1, ρ1, e, P1.sim, h1, l.after S P1⟩
  | false =>
    rw [if_neg Bool.false_ne_true] at h1 ⊢
    exact ⟨M1, ρ1, e, P1.sim, h1, l.after S P1⟩⟩
/-- name = e -/
def sSet (i : Nat) (te : ET) : ST := fun e ρ => te ρ (fun r ρ1 => some! (store i ρ1 r) e.nx) e.xc
theorem ds_set {i : Nat} {x : Str} {pos' : Pos} (hN : X.N.Nodup) (hi : X.N[i]? = some x) (hx : Loc X.env.scope x) (he : DE X p W e te) (hs : swapsWith e (some (.Name x pos')) pos.line X.env = pure false := by rfl) (hf : X.fn x = true ∨ X.env.scope.names.lookup x = some .local := by first | exact .inl rfl | exact .inr rfl | assumption) :
    DS X p W (.Assign [.Name x pos'] e pos) (sSet i te) := ⟨PS.imp (ps_set hN hi hx he.pe hs hf) fun D σ H ⟨M, ρ, e, S, h, l⟩ =>
  ⟨M, ρ, _, _, S, h, fun v M1 H1 ρ1 r P1 _ R1 h1 => by
    obtain ⟨ρ2, e1, h2⟩ := some!_ok h1
    obtain ⟨M2, P2⟩ := store_ok (i := i) S P1 R1 e1
    exact l.nx M2 _ H1 ρ2 P2 h2, fun c M1 H1 ρ1 P1 h1 => l.xc c M1 σ H1 ρ1 P1 h1⟩⟩
/-- name op= e -/
def sAug (f : D → D → (RV → Prop) → Prop) (i : Nat) (te : ET) : ST := fun e ρ => some! (slR i ρ[i]?) fun s => te ρ (fun r ρ1 => f2 f (rd ρ1 s) (rd ρ1 r) fun z => some! (store i ρ1 z) e.nx) e.xc
theorem ds_aug {i : Nat} {x : Str} {op : Operator} {r : R2} {f : D → D → (RV → Prop) → Prop} {pos' : Pos} (hN : X.N.Nodup) (hi : X.N[i]? = some x) (hx : Loc X.env.scope x) (ho : OpR X (inplaceOp op) r) (hr : R2D X.K r f) (he : DE X p W e te) (hf : X.fn x = true ∨ X.env.scope.names.lookup x = some .local := by first | exact .inl rfl | exact .inr rfl | assumption) :
    DS X p W (.AugAssign (.Name x pos') op e pos) (sAug f i te) := ⟨PS.imp (ps_aug hN hi hx he.pe (ti := r) ho hf) fun D σ H ⟨M, ρ, e, S, h, l⟩ => by
  obtain ⟨s, e0, h⟩ := some!_ok h
  obtain ⟨v0, hv0, R0⟩ := var_ok S e0
  refine ⟨v0, hv0, M, ρ, _, _, S, h, fun v M1 H1 ρ1 r1 P1 S1 R1 h1 => ?_, fun c M1 H1 ρ1 P1 h1 => l.xc c M1 σ H1 ρ1 P1 h1⟩
  obtain ⟨a, b, e1, e2, h2⟩ := f2_ok h1
  refine hr M1 H1 v0 v a b _ _ P1.sim.mok (rd_ok P1.sim (R0.post S P1 S1) e1) (rd_ok P1.sim R1 e2) h2 fun w M3 H3 z ok hz => ?_
  obtain ⟨P3, R3⟩ := ok.fin S P1
  obtain ⟨ρ2, e3, h3⟩ := some!_ok hz
  obtain ⟨M4, P4⟩ := store_ok (i := i) S P3 R3 e3
  exact l.nx M4 _ H3 ρ2 P4 h3⟩
/-- a result made ready to wait -/
def ripe (ρ : Ev) : RV → Option (RV × Ev)
  | .o i => match settle ρ (.o i) with
    | some (x, ρ1) => some (.d x, ρ1)
    | none => none
  | r => some (r, ρ)
theorem ripe_ok {K : PySem.W.Frag} {p0 : Option Addr} {M : Addr → Prop} {σ : L2.St} {H H0 : Hp} {ρ ρ' : Ev} {v : V} {r s : RV} (S : Sim K p0 M σ H ρ) (R : RVok K M σ ρ H0 H v r) (e : ripe ρ r = some (s, ρ')) :
    ∃ M', Post K p0 M σ H ρ M' σ H ρ' ∧ Slots ρ ρ' ∧ RVok K M' σ ρ' H0 H v s ∧ ∀ k, s ≠ .o k := by
  cases r with
  | d x => cases e; exact ⟨M, Post.refl S, Slots.refl ρ, R, fun k z => nomatch z⟩
  | n x => cases e; exact ⟨M, Post.refl S, Slots.refl ρ, R, fun k z => nomatch z⟩
  | o i =>
    unfold ripe at e
    simp only at e
    split at e
    · rename_i x ρ1 e1
      cases e
      obtain ⟨M', P, Sl, R'⟩ := settle_ok S R (fun y z => nomatch z) e1
      exact ⟨M', P, Sl, RVok.dd R', fun k z => nomatch z⟩
    · cases e
/-- r is stored while s waits: s came behind r -/
theorem store_wait {K : PySem.W.Frag} {p0 : Option Addr} {M0 M : Addr → Prop} {σ0 σ : L2.St} {H0 H1 H : Hp} {ρ0 ρ ρ' : Ev} {i : Nat} {u v : V} {r s : RV} (S0 : Sim K p0 M0 σ0 H0 ρ0) (P : Post K p0 M0 σ0 H0 ρ0 M σ H ρ)
    (R : RVok K M σ ρ H0 H u r) (T : RVok K M σ ρ H1 H v s) (nk : ∀ k, s ≠ .o k) (fr : ∀ a, u = .ref a → (∃ x, r = .n x) → H1 a ≠ none) (e : store i ρ r = some ρ') :
    ∃ M', Post K p0 M0 σ0 H0 ρ0 M' (σ.set i (some u)) H ρ' ∧ RVok K M' (σ.set i (some u)) ρ' H1 H v s := by
  have cold : ∀ (R' : RVok K M σ ρ H H u r), ∃ M', Post K p0 M0 σ0 H0 ρ0 M' (σ.set i (some u)) H ρ' ∧ RVok K M' (σ.set i (some u)) ρ' H1 H v s := fun R' => by
    obtain ⟨M', P'⟩ := store_ok (i := i) P.sim (Post.refl P.sim) R' e
    refine ⟨M', P.trans S0 P', ?_⟩
    cases s with
    | d x => exact Rep.keep (P'.keep P.sim) T
    | n x =>
      obtain ⟨p, rfl, m, nw, f, o⟩ := T
      exact ⟨p, rfl, P'.step.kp p m nw, fun z => (P'.wr p z).elim nw o.some, f, o.keep (P'.keep P.sim) fun _ z => z⟩
    | o k => exact absurd rfl (nk k)
  cases r with
  | d x => exact cold R
  | o k => exact cold R
  | n x =>
    cases e
    obtain ⟨p, rfl, m, nw, f, o⟩ := R
    obtain ⟨S1, w1⟩ := store_ow (i := i) P.sim m nw o (fun z => S0.p0k p z f) (fun _ _ => trivial)
    refine ⟨M, ⟨S1, P.step, fun a h => ?_⟩, ?_⟩
    · rcases w1 a h with h | h
      · exact P.wr a h
      · exact .inr (h ▸ f)
    · cases s with
      | d x => exact T
      | n y =>
        obtain ⟨p2, rfl, m2, nw2, f2, o2⟩ := T
        refine ⟨p2, rfl, m2, fun z => ?_, f2, o2⟩
        rcases w1 p2 z with h | h
        · exact nw2 h
        · exact fr p rfl ⟨x, rfl⟩ (h ▸ f2)
      | o k => exact absurd rfl (nk k)
/-- a, b = e1, e2 of plain local names -/
def sPar (i j : Nat) (ta tb : ET) : ST := fun e ρ => ta ρ (fun r ρ1 => tb ρ1 (fun s ρ2 => some! (ripe ρ2 s) fun z => some! (store i z.2 r) fun ρ3 => some! (store j ρ3 z.1) e.nx) e.xc) e.xc
variable {a b c : Expr} {ta tb tc : ET}
theorem n_there {K : PySem.W.Frag} {M : Addr → Prop} {σ : L2.St} {ρ : Ev} {H0 H : Hp} {u : V} {r : RV} (R : RVok K M σ ρ H0 H u r) : ∀ a, u = .ref a → (∃ x, r = .n x) → H a ≠ none := fun a e ⟨x, hx⟩ => by
  subst hx
  obtain ⟨p, e', _, _, _, o⟩ := R
  rw [e] at e'
  cases e'
  exact o.some
theorem ds_par {i j : Nat} {x y : Str} {px py pt : Pos} {kt k2 pt2} (hc : X.calm = true) (hN : X.N.Nodup) (hi : X.N[i]? = some x) (hj : X.N[j]? = some y) (hij : i ≠ j)
    (hx : X.env.scope.names.lookup x = some .local) (hy : X.env.scope.names.lookup y = some .local) (ha : DE X p W a ta) (hb : DE X p W b tb)
    (hw : swappedStores [.Tuple [.Name x px, .Name y py] kt pt] (.Tuple [a, b] k2 pt2) X.env = pure (some [x, y]))
    (hsa : starEach (a :: [b]) X.env = (false, eval a X.env) :: starEach [b] X.env := by rfl) (hsb : starEach (b :: []) X.env = (false, eval b X.env) :: starEach [] X.env := by rfl)
    (hs : swapsWithSole [.Tuple [.Name x px, .Name y py] kt pt] (.Tuple [a, b] k2 pt2) pos.line X.env = pure false := by rfl) :
    DS X p W (.Assign [.Tuple [.Name x px, .Name y py] kt pt] (.Tuple [a, b] k2 pt2) pos) (sPar i j ta tb) := ⟨PS.imp (ps_par hc hN hi hj hij hx hy (pa_cons ha.pe (pa_cons hb.pe pa_nil hsb) hsa) hw hs) fun D σ H ⟨M, ρ, e, S, h, l⟩ => by
  refine ⟨M, ρ, _, _, S, h, fun v M1 H1 ρ1 r P1 S1 R1 h1 => ?_, fun c M1 H1 ρ1 P1 h1 => l.xc c M1 σ H1 ρ1 P1 h1⟩
  refine ⟨M1, ρ1, _, _, P1.sim, h1, fun u M2 H2 ρ2 s P2 S2 R2 h2 => ?_, fun c M2 H2 ρ2 P2 h2 => l.xc c M2 σ H2 ρ2 (P1.trans S P2) h2⟩
  obtain ⟨⟨s', ρ3⟩, e1, h3⟩ := some!_ok h2
  obtain ⟨M3, P3, S3, R3, nk⟩ := ripe_ok P2.sim R2 e1
  obtain ⟨ρ4, e2, h4⟩ := some!_ok h3
  have Ra := (R1.post P1.sim P2 S2).post P2.sim P3 S3
  obtain ⟨M4, P4, R4⟩ := store_wait (i := i) S ((P1.trans S P2).trans S P3) Ra R3 nk (n_there R1) e2
  obtain ⟨ρ5, e3, h5⟩ := some!_ok h4
  have R4' : RVok X.K M4 (σ.set i (some v)) ρ4 H H2 u s' := R4.back P1.step.dom
  obtain ⟨M5, P5⟩ := store_ok (i := j) S P4 R4' e3
  exact ⟨v, u, rfl, l.nx M5 _ H2 ρ5 P5 h5⟩⟩
end
end DL

set_option Elab.async false
set_option linter.all false
set_option maxRecDepth 100000
set_option maxHeartbeats 4000000
namespace DL
open PySem PySem.Spec PyProof.Rows L2

/-! ### targets -/
abbrev GT := D → Ev → (Ev → Prop) → Prop
abbrev GTs := List D → Ev → (Ev → Prop) → Prop
/-- the slots but those of sl stand -/
def But (sl : List Nat) (σ σ' : L2.St) : Prop := σ'.length = σ.length ∧ ∀ j, j ∉ sl → σ'[j]? = σ[j]?
theorem But.trans {a b : List Nat} {σ σ1 σ2 : L2.St} (h : But a σ σ1) (k : But b σ1 σ2) : But (a ++ b) σ σ2 := ⟨k.1.trans h.1, fun j hj => (k.2 j fun z => hj (List.mem_append_right _ z)).trans (h.2 j fun z => hj (List.mem_append_left _ z))⟩
def liftG (K : PySem.W.Frag) (p0 : Option Addr) (sl : List Nat) (g : GT) : TG := fun v σ H Q => ∃ (M : Addr → Prop) (ρ : Ev) (d : D) (q : Ev → Prop), Sim K p0 M σ H ρ ∧ Rep K M H v d ∧ g d ρ q ∧ ∀ M' σ' H' ρ', Post K p0 M σ H ρ M' σ' H' ρ' → But sl σ σ' → q ρ' → Q σ' H'
def liftGs (K : PySem.W.Frag) (p0 : Option Addr) (sl : List Nat) (g : GTs) : TGs := fun vs σ H Q => ∃ (M : Addr → Prop) (ρ : Ev) (ds : List D) (q : Ev → Prop), Sim K p0 M σ H ρ ∧ RepL K M H vs ds ∧ g ds ρ q ∧ ∀ M' σ' H' ρ', Post K p0 M σ H ρ M' σ' H' ρ' → But sl σ σ' → q ρ' → Q σ' H'
structure DG (X : Cx) (p0 : Option Addr) (tg : Expr) (sl : List Nat) (g : GT) : Prop where
  pg : PG X tg (liftG X.K p0 sl g)
structure DGs (X : Cx) (p0 : Option Addr) (tg : List Expr) (sl : List Nat) (g : GTs) : Prop where
  pgs : PGs X tg (liftGs X.K p0 sl g)
theorem PG.imp {X : Cx} {e : Expr} {t u : TG} (h : PG X e t) (i : ∀ v σ H Q, u v σ H Q → t v σ H Q) : PG X e u := ⟨fun pins s σ H v w Q I r hu => h.run pins s σ H v w Q I r (i v σ H Q hu)⟩
theorem PGs.imp {X : Cx} {e : List Expr} {t u : TGs} (h : PGs X e t) (i : ∀ v σ H Q, u v σ H Q → t v σ H Q) : PGs X e u := ⟨fun pins s σ H v w Q I r hu => h.run pins s σ H v w Q I r (i v σ H Q hu)⟩
section
variable {X : Cx} {p : Option Addr} {W : WX} {pos : Pos} {e : Expr} {es : List Expr}
def gVar (i : Nat) : GT := fun d ρ q => q (ρ.set i (.va d))
theorem dg_name {i : Nat} {x : Str} (hN : X.N.Nodup) (hi : X.N[i]? = some x) (hx : Loc X.env.scope x) (hf : X.fn x = true ∨ X.env.scope.names.lookup x = some .local := by first | exact .inl rfl | exact .inr rfl | assumption) : DG X p (.Name x pos) [i] (gVar i) :=
  ⟨PG.imp (pg_name hN hi hx hf) fun v σ H Q ⟨M, ρ, d, q, S, R, h, k⟩ => k M _ H _ (store_va S R) ⟨List.length_set, fun j hj => List.getElem?_set_ne fun z => hj (by rw [z]; exact List.mem_singleton_self j)⟩ h⟩
def gsNil : GTs := fun ds ρ q => match ds with
  | [] => q ρ
  | _ => False
def gsCons (g : GT) (gs : GTs) : GTs := fun ds ρ q => match ds with
  | x :: xs => g x ρ fun ρ' => gs xs ρ' q
  | _ => False
theorem dgs_nil : DGs X p [] [] gsNil := ⟨PGs.imp pgs_nil fun v σ H Q ⟨M, ρ, ds, q, S, R, h, k⟩ => by
  cases R with
  | nil => exact ⟨rfl, k M σ H ρ (Post.refl S) ⟨rfl, fun _ _ => rfl⟩ h⟩
  | cons _ _ => exact h.elim⟩
theorem dgs_cons {g : GT} {gs : GTs} {sl sls : List Nat} (h1 : DG X p e sl g) (h2 : DGs X p es sls gs) (hs : (assignEach (e :: es) X.env).map (·.2) = assign e X.env :: (assignEach es X.env).map (·.2) := by rfl) : DGs X p (e :: es) (sl ++ sls) (gsCons g gs) :=
  ⟨PGs.imp (pgs_cons h1.pg h2.pgs hs) fun v σ H Q ⟨M, ρ, ds, q, S, R, h, k⟩ => by
    cases R with
    | nil => exact h.elim
    | cons r rs =>
      refine ⟨_, _, rfl, M, ρ, _, _, S, r, h, fun M1 σ1 H1 ρ1 P1 B1 h1 => ?_⟩
      exact ⟨M1, ρ1, _, q, P1.sim, rs.keep (P1.keep S), h1, fun M2 σ2 H2 ρ2 P2 B2 h2 => k M2 σ2 H2 ρ2 (P1.trans S P2) (B1.trans B2) h2⟩⟩
def gTupD (n : Nat) (gs : GTs) : GT := fun d ρ q => match d with
  | .tup ds => ds.length = n ∧ gs ds ρ q
  | _ => False
theorem dg_tup {k : Nat} {gs : GTs} {n : Nat} {sl : List Nat} (hc : X.calm = true) (h : DGs X p es sl gs)
    (hn : (assignEach es X.env).length = n := by rfl) (hst : (assignEach es X.env).findIdx? (·.1) = none := by rfl) : DG X p (.Tuple es k pos) sl (gTupD n gs) :=
  ⟨PG.imp (pg_tup hc h.pgs hn hst) fun v σ H Q ⟨M, ρ, d, q, S, R, h, k⟩ => by
    cases R with
    | tup s r => exact ⟨_, _, rfl, s.sq, by rw [r.length]; exact h.1, M, ρ, _, q, S, r, h.2, k⟩
    | _ => exact h.elim⟩
/-- o[i] = .., o the slot's own list -/
def gSetL (to ti : ET) : GT := fun d ρ q => to ρ (fun r ρ1 => ti ρ1 (fun s ρ2 => some! (ownL ρ2 r) fun a => some! (intR ρ2 s) fun k => some! (ixN a.2.length k) fun j => q (put a.1 (.lst (a.2.set j d)) ρ2)) fun _ _ => False) fun _ _ => False
theorem dg_setL {o i : Expr} {to ti : ET} (ho : DE X p (fun _ _ _ _ => False) o to) (hi : DE X p (fun _ _ _ _ => False) i ti)
    (ha : ∀ v, assign (.Subscript o i pos) X.env v = (do
      let ov ← holding [v] (eval o X.env)
      let iv ← holding [v, ov] (eval i X.env)
      standAt pos
      holding [v, ov, iv] (setItem ov iv v)
      release [v, ov, iv] []) := by intro _; rfl) : DG X p (.Subscript o i pos) [] (gSetL to ti) :=
  ⟨PG.imp (pg_sub ho.pe hi.pe set_list ha) fun v σ H Q ⟨M, ρ, d, q, S, R, h, k⟩ => by
    refine ⟨M, ρ, _, _, S, h, fun vo M1 H1 ρ1 r1 P1 S1 R1 h1 => ?_, fun c M1 H1 ρ1 P1 h1 => h1⟩
    refine ⟨M1, ρ1, _, _, P1.sim, h1, fun vi M2 H2 ρ2 r2 P2 S2 R2 h2 => ?_, fun c M2 H2 ρ2 P2 h2 => h2⟩
    obtain ⟨⟨n, xs⟩, e1, h3⟩ := some!_ok h2
    obtain ⟨rfl, eo⟩ := ownL_ok e1
    obtain ⟨j, e2, h4⟩ := some!_ok h3
    obtain ⟨l, e3, h5⟩ := some!_ok h4
    obtain ⟨a, hs1, m1, ⟨vs0, hv0, r0⟩, w1⟩ := own_at P2.sim eo
    obtain rfl : vo = .ref a := by
      have z := R1.1
      rw [hs1] at z
      cases z
      rfl
    have P12 := P1.trans S P2
    refine ⟨a, vs0, j, l, rfl, (rd_ok P2.sim R2 (intR_ok e2)).int, hv0, by rw [r0.length]; exact e3, ?_⟩
    have kk : Keep M2 H2 M2 (upd H2 a (.lst (vs0.set l v))) := fun b w e n => ⟨by rw [upd_cold m1 n]; exact e, n⟩
    have P4 := mut_ok P2.sim eo hs1 (o := .lst (vs0.set l v)) (y := .lst (xs.set l d)) ⟨_, upd_same, (r0.keep kk).set _ ((R.keep (P12.keep S)).keep kk)⟩
    exact k _ _ _ _ (P12.trans S P4) ⟨rfl, fun _ _ => rfl⟩ h5⟩
/-- target = e -/
def sAsg (te : ET) (g : GT) : ST := fun e ρ => te ρ (fun r ρ1 => some! (settle ρ1 r) fun z => g z.1 z.2 e.nx) e.xc
theorem ds_asg {tg : Expr} {te : ET} {g : GT} {sl : List Nat} (he : DE X p W e te) (hg : DG X p tg sl g) (hs : swapsWithSole [tg] e pos.line X.env = pure false := by rfl) (hw : swappedStores [tg] e X.env = pure none := by rfl)
    (h1 : (assignEach [tg] X.env).map (·.2) = [assign tg X.env] := by rfl) : DS X p W (.Assign [tg] e pos) (sAsg te g) := ⟨PS.imp (ps_asg he.pe hg.pg hs hw h1) fun D σ H ⟨M, ρ, e, S, h, l⟩ => by
  refine ⟨M, ρ, _, _, S, h, fun v M1 H1 ρ1 r P1 S1 R1 h1 => ?_, fun c M1 H1 ρ1 P1 h1 => l.xc c M1 σ H1 ρ1 P1 h1⟩
  obtain ⟨⟨x, ρ2⟩, e1, h2⟩ := some!_ok h1
  obtain ⟨M2, P2, S2, R2⟩ := settleN_ok S P1 R1 e1
  exact ⟨M2, ρ2, x, _, P2.sim, R2, h2, fun M3 σ3 H3 ρ3 P3 _ h3 => l.nx M3 σ3 H3 ρ3 (P2.trans S P3) h3⟩⟩
end

/-! ### what is walked -/
abbrev IT := Ev → (List D → Ev → Prop) → XQ → Prop
/-- it yields the data ds, whatever is laid meanwhile -/
def ItOk (K : PySem.W.Frag) (M : Addr → Prop) (H : Hp) (J : It) (ds : List D) : Prop := ∀ (M' : Addr → Prop) (H' : Hp), Keep M H M' H' → (∀ q, M' q → H' q ≠ none) →
  (∀ (i : Nat) (d : D), ds[i]? = some d → J.go i H' ∧ ∀ x H'', J.yld i H' x H'' → ∃ M'', Step M' Nil H' M'' H'' ∧ (∀ q, M'' q → H'' q ≠ none) ∧ Rep K M'' H'' x d) ∧ J.stop ds.length H'
def liftI (K : PySem.W.Frag) (p0 : Option Addr) (W : WX) (t : IT) : TI := fun σ H R => ∃ (M : Addr → Prop) (ρ : Ev) (q : List D → Ev → Prop) (x : XQ), Sim K p0 M σ H ρ ∧ t ρ q x ∧
  (∀ J M' H' ρ' ds, Post K p0 M σ H ρ M' σ H' ρ' → ItOk K M' H' J ds → q ds ρ' → R J H') ∧
  (∀ c M' H' ρ', Post K p0 M σ H ρ M' σ H' ρ' → x c ρ' → W (.ref c) none σ H')
structure DI (X : Cx) (p0 : Option Addr) (W : WX) (tg iter : Expr) (t : IT) : Prop where
  pi : PI X tg iter (liftI X.K p0 W t)
theorem PI.imp {X : Cx} {tg e : Expr} {t u : TI} (h : PI X tg e t) (i : ∀ σ H Q, u σ H Q → t σ H Q) : PI X tg e u := ⟨fun pins s σ H Q I hu => h.run pins s σ H Q I (i σ H Q hu)⟩
section
variable {X : Cx} {p : Option Addr} {W : WX} {tg : Expr}
/-- a list or a tuple -/
def iSeq (K : PySem.W.Frag) (tl : TE) : TI := fun σ H R => tl σ H fun x H1 => ∃ a, x = .ref a ∧ (((∃ xs, SqL K H1 a xs) ∧ R (Itl K a) H1) ∨ ((∃ xs, SqT K H1 a xs) ∧ R (Itt K a) H1))
theorem pi_seq {l : Expr} {tl : TE} (hl : PE X l tl) : PI X tg l (iSeq X.K tl) := ⟨fun pins s σ H R I h => thn (hl.run pins s σ H _ I h) fun u s1 hu => by
  obtain ⟨x, G, J, rx, a, rfl, hq | hq⟩ := hu
  · obtain ⟨⟨xs, hx⟩, q⟩ := hq
    cases rx
    obtain ⟨us, vu, pl, _⟩ := J.list hx
    refine wpAny_pyIter_list pl.isList ⟨_, [s1.heap.objs.size], _, _, G, rfl, J.kept (t' := s1.toks) (fun b w z => Heap.get?_push_of_some _ z), turn_list a _, ⟨_, Heap.get?_push_size _ rfl, rfl, rfl⟩, fun b hb => ?_, q⟩
    rw [List.mem_singleton.mp hb]
    exact J.fpOk (Nat.le_refl _) J.fresh
  · obtain ⟨⟨xs, hx⟩, q⟩ := hq
    cases rx
    obtain ⟨us, vu, pl, _⟩ := J.tuple hx
    refine wpAny_pyIter_tuple (show s1.heap.IsTuple a us.toArray from pl) ⟨_, [s1.heap.objs.size], _, _, G, rfl, J.kept (t' := s1.toks) (fun b w z => Heap.get?_push_of_some _ z), turn_tuple a _, ⟨_, Heap.get?_push_size _ rfl, rfl, rfl⟩, fun b hb => ?_, q⟩
    rw [List.mem_singleton.mp hb]
    exact J.fpOk (Nat.le_refl _) J.fresh⟩
def seqS : D → Option (List D)
  | .lst ds => some ds
  | .tup ds => some ds
  | .fz ds => some ds
  | _ => none
def iSeqD (te : ET) : IT := fun ρ q x => te ρ (fun r ρ1 => some! (settle ρ1 r) fun z => some! (seqS z.1) fun ds => q ds z.2) x
theorem it_list {K : PySem.W.Frag} {M : Addr → Prop} {H : Hp} {a : Addr} {vs : List V} {ds : List D} {o : HO} (ho : H a = some o) (n : ¬ M a) (hs : ∀ H' : Hp, H' a = some o → SqL K H' a vs) (r : RepL K M H vs ds) : ItOk K M H (Itl K a) ds := fun M' H' k mok => by
  have h1 : SqL K H' a vs := hs H' (k a o ho n).1
  refine ⟨fun i d hi => ?_, vs, h1, by rw [r.length]; exact Nat.le_refl _⟩
  obtain ⟨u, eu, ru⟩ := r.get hi
  refine ⟨⟨vs, u, h1, eu⟩, fun x H'' y => ?_⟩
  obtain ⟨e, f⟩ := y
  subst e
  have eq : x = u := Option.some.inj ((f vs h1).symm.trans eu)
  subst eq
  exact ⟨M', Step.refl, mok, ru.keep k⟩
theorem it_fz {K : PySem.W.Frag} {M : Addr → Prop} {H : Hp} {a : Addr} {vs : List V} {ds : List D} (h : SqLM K M H a vs) (r : RepL K M H vs ds) : ItOk K M H (Itl K a) ds := fun M' H' k mok => by
  have h1 : SqL K H' a vs := (h.keep k).sq
  refine ⟨fun i d hi => ?_, vs, h1, by rw [r.length]; exact Nat.le_refl _⟩
  obtain ⟨u, eu, ru⟩ := r.get hi
  refine ⟨⟨vs, u, h1, eu⟩, fun x H'' y => ?_⟩
  obtain ⟨e, f⟩ := y
  subst e
  have eq : x = u := Option.some.inj ((f vs h1).symm.trans eu)
  subst eq
  exact ⟨M', Step.refl, mok, ru.keep k⟩
theorem it_tup {K : PySem.W.Frag} {M : Addr → Prop} {H : Hp} {a : Addr} {vs : List V} {ds : List D} (h : SqTM K M H a vs) (r : RepL K M H vs ds) : ItOk K M H (Itt K a) ds := fun M' H' k mok => by
  have h1 : SqT K H' a vs := (h.keep k).sq
  refine ⟨fun i d hi => ?_, vs, h1, by rw [r.length]; exact Nat.le_refl _⟩
  obtain ⟨u, eu, ru⟩ := r.get hi
  refine ⟨⟨vs, u, h1, eu⟩, fun x H'' y => ?_⟩
  obtain ⟨e, f⟩ := y
  subst e
  have eq : x = u := Option.some.inj ((f vs h1).symm.trans eu)
  subst eq
  exact ⟨M', Step.refl, mok, ru.keep k⟩
theorem di_seq {l : Expr} {te : ET} (he : DE X p W l te) : DI X p W tg l (iSeqD te) := ⟨PI.imp (pi_seq he.pe) fun σ H R ⟨M, ρ, q, xq, S, h, hq, hx⟩ => by
  refine ⟨M, ρ, _, _, S, h, fun v M1 H1 ρ1 r P1 S1 R1 h1 => ?_, hx⟩
  obtain ⟨⟨d, ρ2⟩, e1, h2⟩ := some!_ok h1
  obtain ⟨M2, P2, S2, R2⟩ := settleN_ok S P1 R1 e1
  obtain ⟨ds, e2, h3⟩ := some!_ok h2
  cases R2 with
  | lst hl n r =>
    cases e2
    exact ⟨_, rfl, .inl ⟨⟨_, SqL.of hl⟩, hq _ M2 H1 ρ2 _ P2 (it_list hl n (fun H' e => SqL.of e) r) h3⟩⟩
  | fz hl r =>
    cases e2
    exact ⟨_, rfl, .inl ⟨⟨_, hl.sq⟩, hq _ M2 H1 ρ2 _ P2 (it_fz hl r) h3⟩⟩
  | tup hl r =>
    cases e2
    exact ⟨_, rfl, .inr ⟨⟨_, hl.sq⟩, hq _ M2 H1 ρ2 _ P2 (it_tup hl r) h3⟩⟩
  | _ => cases e2⟩
/-- ranges -/
def rngD (lo : Int) (n : Nat) : List D := (List.range n).map fun (i : Nat) => D.int (lo + (i : Int))
theorem it_range {K : PySem.W.Frag} {M : Addr → Prop} {H : Hp} (lo : Int) (n : Nat) : ItOk K M H (Itr lo n) (rngD lo n) := fun M' H' k mok => by
  refine ⟨fun i d hi => ?_, by unfold rngD; rw [List.length_map, List.length_range]; exact Nat.le_refl n⟩
  unfold rngD at hi
  rw [List.getElem?_map] at hi
  cases e : (List.range n)[i]? with
  | none => rw [e] at hi; cases hi
  | some j =>
    rw [e] at hi
    cases hi
    obtain ⟨hl, ej⟩ := List.getElem?_eq_some_iff.mp e
    rw [List.getElem_range] at ej
    subst ej
    rw [List.length_range] at hl
    refine ⟨hl, fun x H'' y => ?_⟩
    obtain ⟨rfl, rfl⟩ := y
    exact ⟨M', Step.refl, mok, .int _⟩
theorem rvInt1 {K : PySem.W.Frag} {M : Addr → Prop} {σ : L2.St} {ρ : Ev} {H0 H : Hp} {vs : List V} {i : Int} (R : RVsOk K M σ ρ H0 H vs [.d (.int i)]) : vs = [.int i] := by
  cases R with | cons a _ b =>
    cases b
    cases a with | int _ => rfl
theorem rvInt2 {K : PySem.W.Frag} {M : Addr → Prop} {σ : L2.St} {ρ : Ev} {H0 H : Hp} {vs : List V} {i j : Int} (R : RVsOk K M σ ρ H0 H vs [.d (.int i), .d (.int j)]) : vs = [.int i, .int j] := by
  cases R with | cons a _ b =>
    cases a with | int _ => rw [rvInt1 b]
theorem rvInt3 {K : PySem.W.Frag} {M : Addr → Prop} {σ : L2.St} {ρ : Ev} {H0 H : Hp} {vs : List V} {i j k : Int} (R : RVsOk K M σ ρ H0 H vs [.d (.int i), .d (.int j), .d (.int k)]) : vs = [.int i, .int j, .int k] := by
  cases R with | cons a _ b =>
    cases a with | int _ => rw [rvInt2 b]
def iR1 (ta : AT) : IT := fun ρ q x => ta ρ (fun rs ρ1 => match rs with
  | [.d (.int j)] => -(2 ^ 62) ≤ j ∧ j < 2 ^ 62 ∧ q (rngD 0 j.toNat) ρ1
  | _ => False) x
def iR2 (ta : AT) : IT := fun ρ q x => ta ρ (fun rs ρ1 => match rs with
  | [.d (.int i), .d (.int j)] => (-(2 ^ 62) ≤ i ∧ i < 2 ^ 62 ∧ -(2 ^ 62) ≤ j ∧ j < 2 ^ 62) ∧ q (rngD i (j - i).toNat) ρ1
  | _ => False) x
/-- a step: how many, and which -/
def rngC (lo c : Int) (n : Nat) : List D := (List.range n).map fun (i : Nat) => D.int (lo + (i : Int) * c)
def iR3 (ta : AT) : IT := fun ρ q x => ta ρ (fun rs ρ1 => match rs with
  | [.d (.int i), .d (.int j), .d (.int c)] => ∃ n, RgC i j c n ∧ q (rngC i c n) ρ1
  | _ => False) x
theorem it_rangeC {K : PySem.W.Frag} {M : Addr → Prop} {H : Hp} (lo c : Int) (n : Nat) : ItOk K M H (Itc lo c n) (rngC lo c n) := fun M' H' k mok => by
  refine ⟨fun i d hi => ?_, by unfold rngC; rw [List.length_map, List.length_range]; exact Nat.le_refl n⟩
  unfold rngC at hi
  rw [List.getElem?_map] at hi
  cases e : (List.range n)[i]? with
  | none => rw [e] at hi; cases hi
  | some j =>
    rw [e] at hi
    cases hi
    obtain ⟨hl, ej⟩ := List.getElem?_eq_some_iff.mp e
    rw [List.getElem_range] at ej
    subst ej
    rw [List.length_range] at hl
    refine ⟨hl, fun x H'' y => ?_⟩
    obtain ⟨rfl, rfl⟩ := y
    exact ⟨M', Step.refl, mok, .int _⟩
theorem di_range1 {a : Expr} {ta : AT} {pp pos : Pos} (hm : X.mg "range" = none) (ha : DA X p W [a] ta) (hg : Gl X "range" := by rfl) (hs : starEach [a] X.env = [(false, eval a X.env)] := by rfl) : DI X p W tg (.Call (.Name "range" pp) [a] [] pos) (iR1 ta) :=
  ⟨PI.imp (pi_range1 hg hm ha.pa hs) fun σ H R ⟨M, ρ, q, xq, S, h, hq, hx⟩ => by
    refine ⟨M, ρ, _, _, S, h, fun vs M1 H1 ρ1 rs P1 S1 R1 h1 => ?_, hx⟩
    split at h1
    · rename_i j
      exact ⟨j, rvInt1 R1, h1.1, h1.2.1, hq _ M1 H1 ρ1 _ P1 (it_range 0 j.toNat) h1.2.2⟩
    · exact h1.elim⟩
theorem di_range2 {a b : Expr} {ta : AT} {pp pos : Pos} (hm : X.mg "range" = none) (ha : DA X p W [a, b] ta) (hg : Gl X "range" := by rfl) (hs : starEach [a, b] X.env = [(false, eval a X.env), (false, eval b X.env)] := by rfl) (hs2 : starEach [b] X.env = [(false, eval b X.env)] := by rfl) :
    DI X p W tg (.Call (.Name "range" pp) [a, b] [] pos) (iR2 ta) :=
  ⟨PI.imp (pi_range2 hg hm ha.pa hs hs2) fun σ H R ⟨M, ρ, q, xq, S, h, hq, hx⟩ => by
    refine ⟨M, ρ, _, _, S, h, fun vs M1 H1 ρ1 rs P1 S1 R1 h1 => ?_, hx⟩
    split at h1
    · rename_i i j
      exact ⟨i, j, rvInt2 R1, h1.1, hq _ M1 H1 ρ1 _ P1 (it_range i _) h1.2⟩
    · exact h1.elim⟩
theorem di_range3 {a b c : Expr} {ta : AT} {pp pos : Pos} (hm : X.mg "range" = none) (ha : DA X p W [a, b, c] ta) (hg : Gl X "range" := by rfl)
    (hs : starEach [a, b, c] X.env = (false, eval a X.env) :: starEach [b, c] X.env := by rfl) (hpl : (backTo pos (starEach [b, c] X.env)).any (·.1) = false := by rfl) :
    DI X p W tg (.Call (.Name "range" pp) [a, b, c] [] pos) (iR3 ta) :=
  ⟨PI.imp (pi_range3 hg hm ha.pa hs hpl) fun σ H R ⟨M, ρ, q, xq, S, h, hq, hx⟩ => by
    refine ⟨M, ρ, _, _, S, h, fun vs M1 H1 ρ1 rs P1 S1 R1 h1 => ?_, hx⟩
    split at h1
    · rename_i i j c
      obtain ⟨n, hn, h2⟩ := h1
      exact ⟨i, j, c, n, rvInt3 R1, hn, hq _ M1 H1 ρ1 _ P1 (it_rangeC i c n) h2⟩
    · exact h1.elim⟩
end

/-! ### while, for -/
section
variable {X : Cx} {p : Option Addr} {W : WX} {pos : Pos}
def sWhile (c : BT) (tb : ST) : ST := fun e ρ => ∃ P : Nat → Ev → Prop, (∃ m, P m ρ) ∧ ∀ m ρ, P m ρ →
  c ρ (fun b ρ1 => if b = true then tb { e with nx := fun ρ2 => ∃ m', m' < m ∧ P m' ρ2, ct := fun ρ2 => ∃ m', m' < m ∧ P m' ρ2, bk := e.nx } ρ1 else e.nx ρ1) e.xc
theorem ds_while {c : Expr} {body : List Stmt} {tc : BT} {tb : ST} (hp : PassesOwn (model X.prog X.w) X.A X.env X.xe) (hc : DB X p W c tc) (hb : DSs X p W body tb) : DS X p W (.While c body [] pos) (sWhile tc tb) :=
  ⟨PS.imp (ps_while hp hc.pt hb.pss) fun D σ H ⟨M, ρ, e, S, ⟨P, ⟨m0, w0⟩, turn⟩, l⟩ => by
    refine ⟨fun m σ' H' => ∃ M' ρ', Post X.K p M σ H ρ M' σ' H' ρ' ∧ P m ρ', ⟨m0, M, ρ, Post.refl S, w0⟩, fun m σ1 H1 ⟨M1, ρ1, P1, w1⟩ => ?_⟩
    refine ⟨M1, ρ1, _, _, P1.sim, turn m ρ1 w1, fun k M2 H2 ρ2 P2 S2 h2 => ?_, fun c M2 H2 ρ2 P2 h2 => l.xc c M2 σ1 H2 ρ2 (P1.trans S P2) h2⟩
    have P12 := P1.trans S P2
    cases k with
    | true =>
      rw [if_pos rfl] at h2
      refine iteT ?_
      refine ⟨fun σ' H' => ∃ m', m' < m ∧ ∃ M' ρ', Post X.K p M σ H ρ M' σ' H' ρ' ∧ P m' ρ', fun σ' H' ⟨m', hm, z⟩ => ⟨m', hm, z⟩, M2, ρ2, _, P2.sim, h2, ?_⟩
      have l2 := l.after S P12
      exact ⟨fun M3 σ3 H3 ρ3 P3 ⟨m', hm, w⟩ => ⟨m', hm, M3, ρ3, P12.trans S P3, w⟩, fun M3 σ3 H3 ρ3 P3 h => l2.nx M3 σ3 H3 ρ3 P3 h, fun M3 σ3 H3 ρ3 P3 ⟨m', hm, w⟩ => ⟨m', hm, M3, ρ3, P12.trans S P3, w⟩, l2.rt, l2.xc⟩
    | false =>
      rw [if_neg Bool.false_ne_true] at h2
      refine iteF ?_
      exact l.nx M2 σ1 H2 ρ2 P12 h2⟩
def sFor (ti : IT) (g : GT) (tb : ST) : ST := fun e ρ => ti ρ (fun ds ρ1 => ∃ P : Nat → Ev → Prop, P 0 ρ1 ∧ (∀ i d ρ, ds[i]? = some d → P i ρ → g d ρ fun ρ2 => tb { e with nx := P (i + 1), ct := P (i + 1), bk := e.nx } ρ2) ∧ (∀ ρ, P ds.length ρ → e.nx ρ)) e.xc
theorem ds_for {tg iter : Expr} {body : List Stmt} {ti : IT} {g : GT} {tb : ST} {sl : List Nat} (hp : PassesOwn (model X.prog X.w) X.A X.env X.xe) (hc : X.calm = true) (hi : DI X p W tg iter ti) (hg : DG X p tg sl g) (hb : DSs X p W body tb)
    (hs : ∀ x, foldedSetIterable iter X.env x = pure x := by intro _; rfl) : DS X p W (.For tg iter body [] pos) (sFor ti g tb) :=
  ⟨PS.imp (ps_for hp hc hi.pi hg.pg hb.pss hs) fun D σ H ⟨M, ρ, e, S, h, l⟩ => by
    refine ⟨M, ρ, _, _, S, h, fun J M1 H1 ρ1 ds P1 it h1 => ?_, fun c M1 H1 ρ1 P1 h1 => l.xc c M1 σ H1 ρ1 P1 h1⟩
    obtain ⟨P, w0, step, fin⟩ := h1
    refine ⟨fun i m σ' H' => i + m = ds.length ∧ ∃ M' ρ', Post X.K p M1 σ H1 ρ1 M' σ' H' ρ' ∧ P i ρ', ⟨ds.length, Nat.zero_add _, M1, ρ1, Post.refl P1.sim, w0⟩, ?_⟩
    rintro i m σ2 H2 ⟨em, M2, ρ2, P2, w2⟩
    obtain ⟨go, stop⟩ := it M2 H2 (P2.keep P1.sim) P2.sim.mok
    by_cases hl : i < ds.length
    · right
      obtain ⟨gi, yi⟩ := go i _ (List.getElem?_eq_getElem hl)
      refine ⟨gi, fun σ' H' => ∃ M' ρ', Post X.K p M1 σ H1 ρ1 M' σ' H' ρ' ∧ P (i + 1) ρ', fun σ' H' ⟨M', ρ', P', w'⟩ => ⟨m - 1, by omega, by omega, M', ρ', P', w'⟩, fun x H3 y => ?_⟩
      obtain ⟨M3, st, mok3, R3⟩ := yi x H3 y
      have P3 := P2.sim.post st mok3
      refine ⟨M3, ρ2, _, _, P3.sim, R3, step i _ ρ2 (List.getElem?_eq_getElem hl) w2, fun M4 σ4 H4 ρ4 P4 _ h4 => ?_⟩
      have P14 := (P2.trans P1.sim P3).trans P1.sim P4
      have l4 := l.after S (P1.trans S P14)
      refine ⟨M4, ρ4, _, P4.sim, h4, ?_⟩
      exact ⟨fun M5 σ5 H5 ρ5 P5 w => ⟨M5, ρ5, P14.trans P1.sim P5, w⟩, fun M5 σ5 H5 ρ5 P5 h => l4.nx M5 σ5 H5 ρ5 P5 h, fun M5 σ5 H5 ρ5 P5 w => ⟨M5, ρ5, P14.trans P1.sim P5, w⟩, l4.rt, l4.xc⟩
    · left
      have ei : i = ds.length := by omega
      subst ei
      exact ⟨stop, (l.after S P1).nx M2 σ2 H2 ρ2 P2 (fin ρ2 w2)⟩⟩
end
end DL

set_option Elab.async false
set_option linter.all false
set_option maxRecDepth 100000
set_option maxHeartbeats 4000000
namespace DL
open PySem PySem.Spec PyProof.Rows L2

abbrev wNo : WX := fun _ _ _ _ => False
abbrev xNo : XQ := fun _ _ => False
def wipeE (ρ : Ev) : List Nat → Ev
  | [] => ρ
  | v :: vs => (wipeE ρ vs).set v .no
def unwipe (ρ1 ρ2 : Ev) : List Nat → Ev
  | [] => ρ2
  | v :: vs => (unwipe ρ1 ρ2 vs).set v (ρ1[v]?.getD .no)
section
variable {K : PySem.W.Frag} {p0 : Option Addr} {M M1 M' : Addr → Prop} {σ σ1 : L2.St} {H H1 H' : Hp} {ρ ρ1 ρ2 : Ev} {v : V} {i : Nat} {x : D}
theorem Sim.set_no (S : Sim K p0 M σ H ρ) (i : Nat) : Sim K p0 M (σ.set i none) H (ρ.set i .no) ∧ ∀ a, Wr (σ.set i none) (ρ.set i .no) a → Wr σ ρ a := by
  have sg : ∀ {j : Nat} {w : V}, (σ.set i none)[j]? = some (some w) → σ[j]? = some (some w) ∧ j ≠ i := fun {j w} h => by
    rcases set_get h with ⟨_, e⟩ | ⟨e, h⟩
    · cases e
    · exact ⟨h, e⟩
  have old : ∀ {j : Nat} {d : D}, ((ρ.set i .no)[j]? = some (.ow d) ∨ (ρ.set i .no)[j]? = some (.io d)) → (ρ[j]? = some (.ow d) ∨ ρ[j]? = some (.io d)) := fun {j d} h => by
    rcases h with h | h
    · rcases get_set h with ⟨_, e⟩ | ⟨_, e⟩
      · cases e
      · exact .inl e
    · rcases get_set h with ⟨_, e⟩ | ⟨_, e⟩
      · cases e
      · exact .inr e
  refine ⟨⟨by rw [List.length_set, List.length_set]; exact S.len, fun j d e => ?_, fun j d e => ?_, fun j d e => ?_, fun j l d e q h1 h2 h3 h4 => S.inj j l d e q (old h1) (old h2) (sg h3).1 (sg h4).1, S.mok, S.p0k⟩, fun a ⟨j, d, h1, h2⟩ => ⟨j, d, old h1, (sg h2).1⟩⟩
  · rcases get_set e with ⟨_, e'⟩ | ⟨hj, e'⟩
    · cases e'
    · obtain ⟨u, e1, r⟩ := S.va j d e'
      exact ⟨u, set_other hj e1, r⟩
  · rcases get_set e with ⟨_, e'⟩ | ⟨hj, e'⟩
    · cases e'
    · obtain ⟨q, e1, m, o, n⟩ := S.ow j d e'
      exact ⟨q, set_other hj e1, m, o, n⟩
  · rcases get_set e with ⟨_, e'⟩ | ⟨hj, e'⟩
    · cases e'
    · obtain ⟨q, e1, m, o, n⟩ := S.io j d e'
      exact ⟨q, set_other hj e1, m, o, n⟩
theorem Sim.wipe (S : Sim K p0 M σ H ρ) : ∀ vs : List Nat, Sim K p0 M (L2.wipe σ vs) H (wipeE ρ vs) ∧ ∀ a, Wr (L2.wipe σ vs) (wipeE ρ vs) a → Wr σ ρ a
  | [] => ⟨S, fun _ h => h⟩
  | v :: vs => by
    obtain ⟨S1, w1⟩ := Sim.wipe S vs
    obtain ⟨S2, w2⟩ := S1.set_no v
    exact ⟨S2, fun a h => w1 a (w2 a h)⟩
theorem wipe_get (σ : L2.St) : ∀ (vs : List Nat) (j : Nat), (L2.wipe σ vs)[j]? = if j ∈ vs then (if j < σ.length then some none else none) else σ[j]?
  | [], j => by simp [L2.wipe]
  | v :: vs, j => by
    have ih := wipe_get σ vs j
    show ((L2.wipe σ vs).set v none)[j]? = _
    by_cases e : j = v
    · subst e
      rw [if_pos List.mem_cons_self]
      by_cases hl : j < σ.length
      · rw [if_pos hl, List.getElem?_set_self (by rw [L2.wipe_length]; exact hl)]
      · rw [if_neg hl, List.getElem?_eq_none (by rw [List.length_set, L2.wipe_length]; omega)]
    · rw [List.getElem?_set_ne (Ne.symm e), ih]
      by_cases hm : j ∈ vs
      · rw [if_pos hm, if_pos (List.mem_cons_of_mem _ hm)]
      · rw [if_neg hm, if_neg (fun z => (List.mem_cons.mp z).elim e hm)]
theorem wipe_but {σ σ' : L2.St} {sl vs : List Nat} (h : But sl (L2.wipe σ vs) σ') (hs : ∀ j ∈ sl, j ∈ vs) : L2.wipe σ' vs = L2.wipe σ vs := by
  refine List.ext_getElem? fun j => ?_
  rw [wipe_get, wipe_get]
  have hl : σ'.length = σ.length := h.1.trans (L2.wipe_length σ vs)
  by_cases hm : j ∈ vs
  · rw [if_pos hm, if_pos hm, hl]
  · rw [if_neg hm, if_neg hm, h.2 j fun z => hm (hs j z), wipe_get, if_neg hm]
theorem unwipe_get (ρ1 ρ2 : Ev) : ∀ (vs : List Nat) (j : Nat) (s : Sl), (unwipe ρ1 ρ2 vs)[j]? = some s → (j ∈ vs ∧ (s = .no ∨ ρ1[j]? = some s)) ∨ (j ∉ vs ∧ ρ2[j]? = some s)
  | [], j, s, h => .inr ⟨List.not_mem_nil, h⟩
  | v :: vs, j, s, h => by
    rcases get_set (show ((unwipe ρ1 ρ2 vs).set v (ρ1[v]?.getD .no))[j]? = some s from h) with ⟨e1, e2⟩ | ⟨hj, e⟩
    · subst e1
      left
      refine ⟨List.mem_cons_self, ?_⟩
      cases hy : ρ1[j]? with
      | none => rw [hy] at e2; exact .inl e2
      | some t => rw [hy] at e2; exact .inr (by rw [e2]; rfl)
    · rcases unwipe_get ρ1 ρ2 vs j s e with ⟨h1, h2⟩ | ⟨h1, h2⟩
      · exact .inl ⟨List.mem_cons_of_mem _ h1, h2⟩
      · exact .inr ⟨fun z => (List.mem_cons.mp z).elim hj h1, h2⟩
theorem unwipe_length (ρ1 ρ2 : Ev) : ∀ vs : List Nat, (unwipe ρ1 ρ2 vs).length = ρ2.length
  | [] => rfl
  | v :: vs => by
    show ((unwipe ρ1 ρ2 vs).set v _).length = _
    rw [List.length_set, unwipe_length ρ1 ρ2 vs]
theorem sim_unwipe {vs : List Nat} (S1 : Sim K p0 M1 σ H1 ρ1) (S2 : Sim K p0 M' (L2.wipe σ vs) H' ρ2) (st : Step M1 (Wr σ ρ1) H1 M' H') (no : ∀ j ∈ vs, ownS ρ1[j]? = none) :
    Sim K p0 M' σ H' (unwipe ρ1 ρ2 vs) ∧ ∀ a, Wr σ (unwipe ρ1 ρ2 vs) a → Wr (L2.wipe σ vs) ρ2 a := by
  have k : Keep M1 H1 M' H' := st.keep fun p h => S1.hot h
  have old : ∀ {j : Nat} {d : D}, ((unwipe ρ1 ρ2 vs)[j]? = some (.ow d) ∨ (unwipe ρ1 ρ2 vs)[j]? = some (.io d)) → j ∉ vs ∧ (ρ2[j]? = some (.ow d) ∨ ρ2[j]? = some (.io d)) := fun {j d} h => by
    rcases h with h | h
    · rcases unwipe_get ρ1 ρ2 vs j _ h with ⟨hm, e | e⟩ | ⟨hm, e⟩
      · cases e
      · have z := no j hm
        rw [e] at z
        cases z
      · exact ⟨hm, .inl e⟩
    · rcases unwipe_get ρ1 ρ2 vs j _ h with ⟨hm, e | e⟩ | ⟨hm, e⟩
      · cases e
      · have z := no j hm
        rw [e] at z
        cases z
      · exact ⟨hm, .inr e⟩
  have out : ∀ {j : Nat} {w : V}, j ∉ vs → σ[j]? = some (some w) → (L2.wipe σ vs)[j]? = some (some w) := fun {j w} hm h => by rw [wipe_get, if_neg hm]; exact h
  refine ⟨⟨by rw [unwipe_length, S2.len, L2.wipe_length], fun j d e => ?_, fun j d e => ?_, fun j d e => ?_, fun j l d e q h1 h2 h3 h4 => ?_, S2.mok, S2.p0k⟩, fun a ⟨j, d, h1, h2⟩ => ⟨j, d, (old h1).2, out (old h1).1 h2⟩⟩
  · rcases unwipe_get ρ1 ρ2 vs j _ e with ⟨hm, e | e⟩ | ⟨hm, e⟩
    · cases e
    · obtain ⟨u, e1, r⟩ := S1.va j d e
      exact ⟨u, e1, r.keep k⟩
    · obtain ⟨u, e1, r⟩ := S2.va j d e
      exact ⟨u, (L2.wipe_some e1).1, r⟩
  · obtain ⟨hm, e' | e'⟩ := old (.inl e)
    · obtain ⟨q, e1, m, o, n⟩ := S2.ow j d e'
      exact ⟨q, (L2.wipe_some e1).1, m, o, n⟩
    · rcases unwipe_get ρ1 ρ2 vs j _ e with ⟨hm2, _⟩ | ⟨_, e2⟩
      · exact absurd hm2 hm
      · rw [e'] at e2; cases e2
  · obtain ⟨hm, e' | e'⟩ := old (.inr e)
    · rcases unwipe_get ρ1 ρ2 vs j _ e with ⟨hm2, _⟩ | ⟨_, e2⟩
      · exact absurd hm2 hm
      · rw [e'] at e2; cases e2
    · obtain ⟨q, e1, m, o, n⟩ := S2.io j d e'
      exact ⟨q, (L2.wipe_some e1).1, m, o, n⟩
  · exact S2.inj j l d e q (old h1).2 (old h2).2 (out (old h1).1 h3) (out (old h2).1 h4)
/-- a hot thing that nobody holds stays as it is -/
theorem hot_kept {σ' : L2.St} {D : Addr} (S : Sim K p0 M σ H ρ) (P : Post K p0 M σ H ρ M' σ' H' ρ1) (m : M D) (nw : ¬ Wr σ ρ D) (o : Own K M H D x) : M' D ∧ ¬ Wr σ' ρ1 D ∧ Own K M' H' D x :=
  ⟨P.step.kp D m nw, fun z => (P.wr D z).elim nw o.some, o.keep (P.keep S) fun u e => P.step.fr D u e nw⟩
/-- it is changed -/
theorem mut_hot {D : Addr} {o : HO} (S : Sim K p0 M σ H ρ) (m : M D) (nw : ¬ Wr σ ρ D) : Sim K p0 M σ (upd H D o) ρ := by
  have k : Keep M H M (upd H D o) := fun a u e n => ⟨by rw [upd_cold m n]; exact e, n⟩
  have dom : ∀ a, H a ≠ none → upd H D o a ≠ none := fun a ha => by
    by_cases e : a = D
    · rw [e, upd_same]; exact fun z => nomatch z
    · rw [upd_ne e]; exact ha
  have nd : ∀ {j : Nat} {d : DL.D} {q : Addr}, (ρ[j]? = some (.ow d) ∨ ρ[j]? = some (.io d)) → σ[j]? = some (some (.ref q)) → q ≠ D := fun {j d q} h1 h2 e => nw (e ▸ ⟨j, d, h1, h2⟩)
  refine ⟨S.len, fun j d e => ?_, fun j d e => ?_, fun j d e => ?_, S.inj, fun a z => dom a (S.mok a z), fun q e => dom q (S.p0k q e)⟩
  · obtain ⟨u, e1, r⟩ := S.va j d e
    exact ⟨u, e1, r.keep k⟩
  · obtain ⟨q, e1, mq, oo, n⟩ := S.ow j d e
    exact ⟨q, e1, mq, oo.keep k fun u z => by rw [upd_ne (nd (.inl e) e1)]; exact z, n⟩
  · obtain ⟨q, e1, mq, oo, n⟩ := S.io j d e
    exact ⟨q, e1, mq, oo.keep k fun u z => by rw [upd_ne (nd (.inr e) e1)]; exact z, n⟩
end

/-! ### comprehensions -/
def bYes : BT := fun ρ q _ => q true ρ
structure DTs (X : Cx) (p0 : Option Addr) (W : WX) (ifs : List Expr) (t : BT) : Prop where
  pts : PTs X ifs (liftB X.K p0 W t)
theorem PTs.imp {X : Cx} {e : List Expr} {t u : TT} (h : PTs X e t) (i : ∀ σ H Q, u σ H Q → t σ H Q) : PTs X e u := ⟨fun pins s σ H Q I hu => h.run pins s σ H Q I (i σ H Q hu)⟩
theorem dts_nil {X : Cx} {p : Option Addr} {W : WX} : DTs X p W [] bYes := ⟨PTs.imp pts_nil fun σ H Q ⟨M, ρ, q, x, S, h, hq, _⟩ => hq true M H ρ (Post.refl S) (Slots.refl ρ) h⟩
theorem dts_one {X : Cx} {p : Option Addr} {W : WX} {c : Expr} {t : BT} (h : DB X p W c t) : DTs X p W [c] t := ⟨pts_one h.pt⟩
/-- [e for target in iter if ..]: P by the turn, what is made, the slots -/
def tLc' (ti : IT) (g : GT) (tt : BT) (te : ET) (vs : List Nat) : ET := fun ρ q x => ti ρ (fun ds ρ1 => (vs.all fun v => (ownS ρ1[v]?).isNone) = true ∧ ∃ P : Nat → List D → Ev → Prop, P 0 [] (wipeE ρ1 vs) ∧
  (∀ i d acc ρ2, ds[i]? = some d → P i acc ρ2 → g d ρ2 fun ρ3 => tt ρ3 (fun b ρ4 => if b = true then te ρ4 (fun r ρ5 => some! (settle ρ5 r) fun z => acc.length < sizeLine ∧ P (i + 1) (acc ++ [z.1]) (wipeE z.2 vs)) xNo else P (i + 1) acc (wipeE ρ4 vs)) xNo) ∧
  (∀ acc ρ2, P ds.length acc ρ2 → q (.n (.lst acc)) (unwipe ρ1 ρ2 vs))) x
theorem tLc_ok {X : Cx} {p : Option Addr} {W : WX} {ti : IT} {g : GT} {tt : BT} {te : ET} {vs sl : List Nat} (hsl : ∀ j ∈ sl, j ∈ vs) {σ : L2.St} {H : Hp} {Q : VK} (h : lift X.K p W (tLc' ti g tt te vs) σ H Q) :
    tLc (liftI X.K p W ti) (liftG X.K p sl g) (liftB X.K p wNo tt) (lift X.K p wNo te) vs σ H Q := by
  obtain ⟨M, ρ, q, xq, S, ht, hq, hx⟩ := h
  refine ⟨M, ρ, _, _, S, ht, fun J M1 H1 ρ1 ds P1 it h1 D hD => ?_, hx⟩
  obtain ⟨hno, P, w0, step, fin⟩ := h1
  have no : ∀ j ∈ vs, ownS ρ1[j]? = none := fun j hj => Option.isNone_iff_eq_none.mp (List.all_eq_true.mp hno j hj)
  obtain ⟨Sw, ww⟩ := P1.sim.wipe vs
  have R0 := ResOk.lst (K := X.K) (xs := []) (ds := []) P1.sim.mok hD .nil
  have nw0 : ¬ Wr σ ρ1 D := fun z => P1.sim.mok D (P1.sim.hot z) hD
  refine ⟨fun i m H' => i + m = ds.length ∧ ∃ M' ρ' acc, Sim X.K p M' (L2.wipe σ vs) H' ρ' ∧ Step M1 (Wr σ ρ1) H1 M' H' ∧ (∀ a, Wr (L2.wipe σ vs) ρ' a → Wr σ ρ1 a ∨ H1 a = none) ∧ M' D ∧ ¬ Wr (L2.wipe σ vs) ρ' D ∧ Own X.K M' H' D (.lst acc) ∧ P i acc ρ',
    ⟨ds.length, Nat.zero_add _, _, wipeE ρ1 vs, [], Sw.more R0.step R0.mok, R0.step.weak fun _ z => z.elim, fun a z => .inl (ww a z), .inr rfl, fun z => nw0 (ww D z), ⟨[], upd_same, .nil⟩, w0⟩, ?_⟩
  rintro i m H2 ⟨em, M2, ρ2, acc, S2, st2, wr2, mD, nwD, oD, w2⟩
  obtain ⟨go, stop⟩ := it M2 H2 (st2.keep fun a z => P1.sim.hot z) S2.mok
  by_cases hl : i < ds.length
  · right
    obtain ⟨gi, yi⟩ := go i _ (List.getElem?_eq_getElem hl)
    refine ⟨gi, fun H' => ∃ M' ρ' acc, Sim X.K p M' (L2.wipe σ vs) H' ρ' ∧ Step M1 (Wr σ ρ1) H1 M' H' ∧ (∀ a, Wr (L2.wipe σ vs) ρ' a → Wr σ ρ1 a ∨ H1 a = none) ∧ M' D ∧ ¬ Wr (L2.wipe σ vs) ρ' D ∧ Own X.K M' H' D (.lst acc) ∧ P (i + 1) acc ρ', fun H' z => ⟨m - 1, by omega, by omega, z⟩, fun x H3 y => ?_⟩
    obtain ⟨M3, st3, mok3, R3⟩ := yi x H3 y
    have P3 := S2.post st3 mok3
    refine ⟨M3, ρ2, _, _, P3.sim, R3, step i _ acc ρ2 (List.getElem?_eq_getElem hl) w2, fun M4 σ4 H4 ρ4 P4 B4 h4 => ?_⟩
    have ew := wipe_but B4 hsl
    refine ⟨ew, M4, ρ4, _, _, P4.sim, h4, fun b M5 H5 ρ5 P5 S5 h5 => ?_, fun c M5 H5 ρ5 P5 h5 => h5⟩
    have P35 := (P3.trans S2 P4).trans S2 P5
    -- the turn's end: everything from M2 on
    have close : ∀ {M6 : Addr → Prop} {H6 : Hp} {ρ6 : Ev}, Post X.K p M2 (L2.wipe σ vs) H2 ρ2 M6 σ4 H6 ρ6 → Sim X.K p M6 (L2.wipe σ vs) H6 (wipeE ρ6 vs) ∧ Step M1 (Wr σ ρ1) H1 M6 H6 ∧ (∀ a, Wr (L2.wipe σ vs) (wipeE ρ6 vs) a → Wr σ ρ1 a ∨ H1 a = none) ∧ M6 D ∧ ¬ Wr (L2.wipe σ vs) (wipeE ρ6 vs) D ∧ Own X.K M6 H6 D (.lst acc) := fun {M6 H6 ρ6} P6 => by
      obtain ⟨Sx, wx⟩ := P6.sim.wipe vs
      rw [ew] at Sx wx
      obtain ⟨k1, k2, k3⟩ := hot_kept S2 P6 mD nwD oD
      refine ⟨Sx, st2.trans P6.step wr2 P1.sim.mok, fun a z => ?_, k1, fun z => k2 (wx D z), k3⟩
      rcases P6.wr a (wx a z) with z | z
      · exact wr2 a z
      · exact .inr (dom_back st2.dom z)
    cases b with
    | false =>
      rw [if_neg Bool.false_ne_true] at h5
      refine iteF ?_
      obtain ⟨a1, a2, a3, a4, a5, a6⟩ := close P35
      exact ⟨M5, _, acc, a1, a2, a3, a4, a5, a6, h5⟩
    | true =>
      rw [if_pos rfl] at h5
      refine iteT ⟨M5, ρ5, _, _, P5.sim, h5, fun v M6 H6 ρ6 r P6 S6 R6 h6 => ?_, fun c M6 H6 ρ6 P6 h6 => h6⟩
      obtain ⟨⟨d, ρ7⟩, e7, hz, h7⟩ := some!_ok h6
      obtain ⟨M7, P7, S7, R7⟩ := settleN_ok P5.sim P6 R6 e7
      obtain ⟨a1, a2, a3, a4, a5, avs, ah, ar⟩ := close (P35.trans S2 P7)
      refine ⟨avs, ah, by rw [ar.length]; exact hz, M7, _, acc ++ [d], mut_hot a1 a4 a5, ⟨fun b u e n => ?_, a2.sub, a2.kp, fun b hb => ?_⟩, a3, a4, a5, ⟨_, upd_same, ?_⟩, h7⟩
      · have nb : b ≠ D := fun z => by rw [z, hD] at e; cases e
        rw [upd_ne nb]
        exact a2.fr b u e n
      · by_cases e : b = D
        · rw [e, upd_same]; exact fun z => nomatch z
        · rw [upd_ne e]; exact a2.dom b hb
      · have kk : Keep M7 H6 M7 (upd H6 D (.lst (avs ++ [v]))) := fun b w e n => ⟨by rw [upd_cold a4 n]; exact e, n⟩
        exact (ar.keep kk).append (.cons (R7.keep kk) .nil)
  · left
    have ei : i = ds.length := by omega
    subst ei
    refine ⟨stop, ?_⟩
    obtain ⟨Su, wu⟩ := sim_unwipe P1.sim S2 st2 no
    have P2 : Post X.K p M1 σ H1 ρ1 M2 σ H2 (unwipe ρ1 ρ2 vs) := ⟨Su, st2, fun a z => wr2 a (wu a z)⟩
    refine hq (.ref D) M2 H2 _ (.n (.lst acc)) (P1.trans S P2) trivial ⟨D, rfl, mD, fun z => nwD (wu D z), dom_back P1.step.dom hD, oD⟩ (fin acc ρ2 w2)
end DL

set_option Elab.async false
set_option linter.all false
set_option maxRecDepth 100000
set_option maxHeartbeats 4000000
namespace DL
open PySem PySem.Spec PyProof.Rows L2
section
variable {X : Cx} {p : Option Addr} {W : WX}
theorem de_lc {elt tg iter : Expr} {ifs : List Expr} {scope : Scope} {own : List (Str × Nat)} {pos : Pos} {ti : IT} {g : GT} {tt : BT} {te : ET} {sl : List Nat} (hc : X.calm = true) (hN : X.N.Nodup) (hi : DI X p W tg iter ti) (ok : BlkOk X.N X.env.scope scope own)
    (hg : ∀ (s : Shared) (H : Hp) (C : Addr) (cl : List (Str × Addr)) (fp : List Addr), DG (X.blk s H scope (compEnvC scope cl C X.env) fp) p tg sl g) (ht : ∀ (s : Shared) (H : Hp) (C : Addr) (cl : List (Str × Addr)) (fp : List Addr), DTs (X.blk s H scope (compEnvC scope cl C X.env) fp) p wNo ifs tt)
    (he : ∀ (s : Shared) (H : Hp) (C : Addr) (cl : List (Str × Addr)) (fp : List Addr), DE (X.blk s H scope (compEnvC scope cl C X.env) fp) p wNo elt te) (hsl : (sl.all fun j => (own.map (·.2)).contains j) = true) (hs : ∀ x, foldedSetIterable iter X.env x = pure x := by intro _; rfl) :
    DE X p W (.ListComp elt [⟨tg, iter, ifs, 0⟩] scope pos) (tLc' ti g tt te (own.map (·.2))) :=
  ⟨PE.imp (pe_lc hc hN hi.pi ok (fun s H C cl fp => (hg s H C cl fp).pg) (fun s H C cl fp => (ht s H C cl fp).pts) (fun s H C cl fp => (he s H C cl fp).pe) hs) fun _ _ _ h => tLc_ok (fun j hj => by simpa using List.all_eq_true.mp hsl j hj) h⟩
theorem ds_setLc {i : Nat} {y : Str} {py : Pos} {elt tg iter : Expr} {ifs : List Expr} {scope : Scope} {own : List (Str × Nat)} {pos spos : Pos} {ti : IT} {g : GT} {tt : BT} {te : ET} {sl : List Nat} (hc : X.calm = true) (hN : X.N.Nodup) (hy : X.N[i]? = some y) (hyl : X.env.scope.names.lookup y = some .local)
    (hsw : swapsWith (.ListComp elt [⟨tg, iter, ifs, 0⟩] scope pos) (some (.Name y py)) spos.line X.env = pure true) (hi : DI X p W tg iter ti) (ok : BlkOk X.N X.env.scope scope own)
    (hg : ∀ (s : Shared) (H : Hp) (C : Addr) (cl : List (Str × Addr)) (fp : List Addr), DG (X.blk s H scope (compEnvC scope cl C X.env) fp) p tg sl g) (ht : ∀ (s : Shared) (H : Hp) (C : Addr) (cl : List (Str × Addr)) (fp : List Addr), DTs (X.blk s H scope (compEnvC scope cl C X.env) fp) p wNo ifs tt)
    (he : ∀ (s : Shared) (H : Hp) (C : Addr) (cl : List (Str × Addr)) (fp : List Addr), DE (X.blk s H scope (compEnvC scope cl C X.env) fp) p wNo elt te) (hsl : (sl.all fun j => (own.map (·.2)).contains j) = true) (hs : ∀ x, foldedSetIterable iter X.env x = pure x := by intro _; rfl) :
    DS X p W (.Assign [.Name y py] (.ListComp elt [⟨tg, iter, ifs, 0⟩] scope pos) spos) (sSet i (tLc' ti g tt te (own.map (·.2)))) :=
  ⟨PS.imp (ps_setLc hc hN hy hyl hsw hi.pi ok (fun s H C cl fp => (hg s H C cl fp).pg) (fun s H C cl fp => (ht s H C cl fp).pts) (fun s H C cl fp => (he s H C cl fp).pe) hs) fun D σ H ⟨M, ρ, e, S, h, l⟩ => by
    refine tLc_ok (p := p) (W := W) (fun j hj => by simpa using List.all_eq_true.mp hsl j hj) ⟨M, ρ, _, _, S, h, fun v M1 H1 ρ1 r P1 _ R1 h1 => ?_, fun c M1 H1 ρ1 P1 h1 => l.xc c M1 σ H1 ρ1 P1 h1⟩
    obtain ⟨ρ2, e1, h2⟩ := some!_ok h1
    obtain ⟨M2, P2⟩ := store_ok (i := i) S P1 R1 e1
    exact l.nx M2 _ H1 ρ2 P2 h2⟩
end

/-! ### defs -/
/-- a def's promise over data: the arguments, what is wanted of the result, of an exception of the class at c -/
abbrev PSp := List D → (RV → Prop) → (Addr → Prop) → Prop
def liftSp (K : PySem.W.Frag) (sp : PSp) : Sp := fun vs H Q E => ∃ (M : Addr → Prop) (ds : List D) (q : RV → Prop) (x : Addr → Prop), (∀ a, M a → H a ≠ none) ∧ RepL K M H vs ds ∧ sp ds q x ∧
  (∀ v M' H' r, ResOk K M H M' H' v r → q r → Q v H') ∧ (∀ c M' H', Step M Nil H M' H' → (∀ a, M' a → H' a ≠ none) → x c → E (.ref c) none H')
/-- .. the first argument is the caller's own thing, changed -/
abbrev PSpIO := D → List D → (RV → D → Prop) → (Addr → D → Prop) → Prop
structure IoOk (K : PySem.W.Frag) (M : Addr → Prop) (H : Hp) (p : Addr) (M' : Addr → Prop) (H' : Hp) (y : D) : Prop where
  step : Step M (fun a => a = p) H M' H'
  mok : ∀ a, M' a → H' a ≠ none
  hot : M' p
  own : Own K M' H' p y
def liftIO (K : PySem.W.Frag) (sp : PSpIO) : Sp := fun vs H Q E => ∃ (p : Addr) (vs' : List V) (M : Addr → Prop) (d : D) (ds : List D) (q : RV → D → Prop) (x : Addr → D → Prop), vs = .ref p :: vs' ∧ M p ∧ Own K M H p d ∧ (∀ a, M a → H a ≠ none) ∧ RepL K M H vs' ds ∧ sp d ds q x ∧
  (∀ v M' H' r y, IoOk K M H p M' H' y → (match r with
    | .d x => Rep K M' H' v x
    | .n x => ∃ a, v = .ref a ∧ H a = none ∧ M' a ∧ a ≠ p ∧ Own K M' H' a x
    | .o _ => False) → q r y → Q v H') ∧ (∀ c M' H' y, IoOk K M H p M' H' y → x c y → E (.ref c) none H')
def startE (N : List Str) (ds : List D) : Ev := ds.map Sl.va ++ List.replicate (N.length - ds.length) Sl.no
def startIO (N : List Str) (d : D) (ds : List D) : Ev := (Sl.io d :: ds.map Sl.va) ++ List.replicate (N.length - (ds.length + 1)) Sl.no
theorem start_get {N : List Str} {vs : List V} {i : Nat} {v : V} (h : vs[i]? = some v) : (L2.start N vs)[i]? = some (some v) := by
  unfold L2.start
  have hl : i < vs.length := (List.getElem?_eq_some_iff.mp h).1
  rw [List.getElem?_append_left (by rw [List.length_map]; exact hl), List.getElem?_map, h]
  rfl
theorem noRep {n i : Nat} {s : Sl} (h : (List.replicate n Sl.no)[i]? = some s) : s = .no := by
  rw [List.getElem?_replicate] at h
  split at h
  · cases h; rfl
  · cases h
theorem start_sim {K : PySem.W.Frag} {M : Addr → Prop} {H : Hp} {N : List Str} {vs : List V} {ds : List D} (mok : ∀ a, M a → H a ≠ none) (r : RepL K M H vs ds) : Sim K none M (L2.start N vs) H (startE N ds) ∧ ∀ a, ¬ Wr (L2.start N vs) (startE N ds) a := by
  have key : ∀ {i : Nat} {s : Sl}, (startE N ds)[i]? = some s → s = .no ∨ ∃ d, ds[i]? = some d ∧ s = .va d := fun {i s} h => by
    unfold startE at h
    by_cases hl : i < ds.length
    · rw [List.getElem?_append_left (by rw [List.length_map]; exact hl), List.getElem?_map, List.getElem?_eq_getElem hl] at h
      cases h
      exact .inr ⟨_, List.getElem?_eq_getElem hl, rfl⟩
    · rw [List.getElem?_append_right (by rw [List.length_map]; omega)] at h
      exact .inl (noRep h)
  have no : ∀ {i : Nat} {d : D}, ¬ ((startE N ds)[i]? = some (.ow d) ∨ (startE N ds)[i]? = some (.io d)) := fun {i d} h => by
    rcases h with h | h <;> rcases key h with e | ⟨_, _, e⟩ <;> cases e
  refine ⟨⟨?_, fun i d h => ?_, fun i d h => (no (.inl h)).elim, fun i d h => (no (.inr h)).elim, fun i j d e q h1 h2 => (no h1).elim, mok, fun q e => nomatch e⟩, fun a ⟨j, d, h1, h2⟩ => no h1⟩
  · unfold startE L2.start
    rw [List.length_append, List.length_append, List.length_map, List.length_map, List.length_replicate, List.length_replicate, r.length]
  · rcases key h with e | ⟨d', hd, e⟩
    · cases e
    · cases e
      obtain ⟨v, hv, rv⟩ := r.get hd
      exact ⟨v, start_get hv, rv⟩
theorem startIO_sim {K : PySem.W.Frag} {M : Addr → Prop} {H : Hp} {N : List Str} {p : Addr} {vs : List V} {d : D} {ds : List D} (mp : M p) (o : Own K M H p d) (mok : ∀ a, M a → H a ≠ none) (r : RepL K M H vs ds) :
    Sim K (some p) M (L2.start N (.ref p :: vs)) H (startIO N d ds) ∧ ∀ a, Wr (L2.start N (.ref p :: vs)) (startIO N d ds) a → a = p := by
  have h0 : (L2.start N (.ref p :: vs))[0]? = some (some (.ref p)) := start_get rfl
  have key : ∀ {i : Nat} {s : Sl}, (startIO N d ds)[i]? = some s → s = .no ∨ (i = 0 ∧ s = .io d) ∨ ∃ j e, i = j + 1 ∧ ds[j]? = some e ∧ s = .va e := fun {i s} h => by
    cases i with
    | zero => cases h; exact .inr (.inl ⟨rfl, rfl⟩)
    | succ j =>
      have h : (ds.map Sl.va ++ List.replicate (N.length - (ds.length + 1)) Sl.no)[j]? = some s := h
      by_cases hl : j < ds.length
      · rw [List.getElem?_append_left (by rw [List.length_map]; exact hl), List.getElem?_map, List.getElem?_eq_getElem hl] at h
        cases h
        exact .inr (.inr ⟨j, _, rfl, List.getElem?_eq_getElem hl, rfl⟩)
      · rw [List.getElem?_append_right (by rw [List.length_map]; omega)] at h
        exact .inl (noRep h)
  have now : ∀ {i : Nat} {e : D}, (startIO N d ds)[i]? ≠ some (.ow e) := fun {i e} h => by
    rcases key h with e | ⟨_, e⟩ | ⟨_, _, _, _, e⟩ <;> cases e
  have io0 : ∀ {i : Nat} {e : D}, (startIO N d ds)[i]? = some (.io e) → i = 0 ∧ e = d := fun {i e} h => by
    rcases key h with e | ⟨h0, e⟩ | ⟨_, _, _, _, e⟩
    · cases e
    · cases e; exact ⟨h0, rfl⟩
    · cases e
  refine ⟨⟨?_, fun i e h => ?_, fun i e h => (now h).elim, fun i e h => ?_, fun i j e f q h1 h2 _ _ => ?_, mok, fun q e => by cases e; exact o.some⟩, fun a ⟨j, e, h1, h2⟩ => ?_⟩
  · unfold startIO L2.start
    rw [List.length_append, List.length_append, List.length_map, List.length_replicate, List.length_replicate, List.length_cons, List.length_cons, List.length_map, r.length]
  · rcases key h with e1 | ⟨_, e1⟩ | ⟨j, e', rfl, hd, e1⟩
    · cases e1
    · cases e1
    · cases e1
      obtain ⟨v, hv, rv⟩ := r.get hd
      exact ⟨v, start_get (vs := .ref p :: vs) (i := j + 1) hv, rv⟩
  · obtain ⟨rfl, rfl⟩ := io0 h
    exact ⟨p, h0, mp, o, rfl⟩
  · rcases h1 with h1 | h1
    · exact (now h1).elim
    · rcases h2 with h2 | h2
      · exact (now h2).elim
      · rw [(io0 h1).1, (io0 h2).1]
  · rcases h1 with h1 | h1
    · exact (now h1).elim
    · rw [(io0 h1).1, h0] at h2
      cases h2
      rfl
def ioS : Option Sl → Option D
  | some (.io d) => some d
  | _ => none
section
variable {P : Program} {w : World} {K : PySem.W.Frag} {mg : Str → Option Value} {base : Heap}
/-- as Fun.okX, the exceptions' contexts None -/
theorem okN {x qual : Str} {st : Stmt} {f : Addr} {fd : FuncData} {N ps : List Str} {k : Nat} {sp : Sp} (F : Fun K x qual st f fd) (S : FnScope N ps (defScope st)) (len : ∀ vs H Q E, sp vs H Q E → vs.length = ps.length)
    (hb : ∀ (cdv : Value) (A : Around) (outer : List Env) (s : Shared) (H : Hp) (vs : List V) (Q : VK) (E : XK), Room k (A.deeper (envOfC qual (defScope st) s.heap.objs.size f cdv)) → sp vs H Q E →
      ∃ t, PSs (cxOf (L2N.CX P w) P w K mg base N qual (defScope st) f cdv A outer s H E) (defBody st) t ∧ t { nx := fun _ H' => Q .non H', rt := Q } (L2.start N vs) H) : FnOk P w K mg base (L2N.CX P w) (k + 1) f fd ps sp := by
  obtain ⟨oc, od, kV, doc, pm, an, cdv, ct, osl, rfl, lk, hcd⟩ := F.ex
  exact fn_of lk hcd S len fun A outer s H vs Q E hr h => hb cdv A outer s H vs Q E hr h
theorem fn_ok {x qual : Str} {st : Stmt} {f : Addr} {fd : FuncData} {N ps : List Str} {k : Nat} {sp : PSp} {t : ST} (F : Fun K x qual st f fd) (S : FnScope N ps (defScope st)) (len : ∀ ds q x, sp ds q x → ds.length = ps.length)
    (hbody : ∀ (cdv : Value) (A : Around) (outer : List Env) (s : Shared) (H : Hp) (E : XK), Room k (A.deeper (envOfC qual (defScope st) s.heap.objs.size f cdv)) →
      DSs (cxOf (L2N.CX P w) P w K mg base N qual (defScope st) f cdv A outer s H E) none (fun c d _ H => E c d H) (defBody st) t)
    (hsp : ∀ ds q x, sp ds q x → t ⟨fun _ => q (.d .non), fun r _ => q r, fun _ => False, fun _ => False, fun c _ => x c⟩ (startE N ds)) : FnOk P w K mg base (L2N.CX P w) (k + 1) f fd ps (liftSp K sp) := by
  refine okN F S (fun vs H Q E ⟨M, ds, q, x, mok, r, h, _⟩ => r.length.trans (len ds q x h)) fun cdv A outer s H vs Q E hr ⟨M, ds, q, x, mok, r, h, k1, k2⟩ => ?_
  refine ⟨_, (hbody cdv A outer s H E hr).pss, ?_⟩
  obtain ⟨S0, nw⟩ := start_sim (N := N) mok r
  have st0 : ∀ {M' : Addr → Prop} {H' : Hp}, Step M (Wr (L2.start N vs) (startE N ds)) H M' H' → Step M Nil H M' H' := fun s => s.weak fun a z => nw a z
  refine ⟨M, startE N ds, _, S0, hsp ds q x h, ⟨fun M' σ' H' ρ' P' h' => k1 .non M' H' (.d .non) ⟨st0 P'.step, P'.sim.mok, Rep.non⟩ h', fun _ _ _ _ _ z => z.elim, fun _ _ _ _ _ z => z.elim, fun v M' σ' H' ρ' r' P' R' h' => k1 v M' H' r' ⟨st0 P'.step, P'.sim.mok, ?_⟩ h', fun c M' σ' H' ρ' P' h' => k2 c M' H' (st0 P'.step) P'.sim.mok h'⟩⟩
  cases r' with
  | d y => exact R'
  | n y =>
    obtain ⟨a, e, m, o, z, _⟩ := R'
    exact ⟨a, e, z.elim id fun z => (nw a z).elim, m, o⟩
  | o _ => exact R'
theorem fn_okIO {x qual : Str} {st : Stmt} {f : Addr} {fd : FuncData} {N ps : List Str} {k : Nat} {sp : PSpIO} {t : ST} (F : Fun K x qual st f fd) (S : FnScope N ps (defScope st)) (len : ∀ d ds q x, sp d ds q x → ds.length + 1 = ps.length)
    (hbody : ∀ (p : Addr) (cdv : Value) (A : Around) (outer : List Env) (s : Shared) (H : Hp) (E : XK), Room k (A.deeper (envOfC qual (defScope st) s.heap.objs.size f cdv)) →
      DSs (cxOf (L2N.CX P w) P w K mg base N qual (defScope st) f cdv A outer s H E) (some p) (fun c d _ H => E c d H) (defBody st) t)
    (hsp : ∀ d ds q x, sp d ds q x → t ⟨fun ρ => some! (ioS ρ[0]?) fun y => q (.d .non) y, fun r ρ => some! (ioS ρ[0]?) fun y => q r y, fun _ => False, fun _ => False, fun c ρ => some! (ioS ρ[0]?) fun y => x c y⟩ (startIO N d ds)) : FnOk P w K mg base (L2N.CX P w) (k + 1) f fd ps (liftIO K sp) := by
  refine okN F S (fun vs H Q E ⟨p, vs', M, d, ds, q, x, e, _, _, _, r, h, _⟩ => by rw [e, List.length_cons, r.length]; exact len d ds q x h) fun cdv A outer s H vs Q E hr ⟨p, vs', M, d, ds, q, x, e, mp, o, mok, r, h, k1, k2⟩ => ?_
  subst e
  refine ⟨_, (hbody p cdv A outer s H E hr).pss, ?_⟩
  obtain ⟨S0, nw⟩ := startIO_sim (N := N) mp o mok r
  have io : ∀ {M' : Addr → Prop} {σ' : L2.St} {H' : Hp} {ρ' : Ev} {y : D}, Post K (some p) M (L2.start N (.ref p :: vs')) H (startIO N d ds) M' σ' H' ρ' → ioS ρ'[0]? = some y → IoOk K M H p M' H' y := fun {M' σ' H' ρ' y} P' h' => by
    cases hy : ρ'[0]? with
    | none => rw [hy] at h'; cases h'
    | some sl =>
      rw [hy] at h'
      cases sl with
      | io z =>
        cases h'
        obtain ⟨q', e1, m, o', e2⟩ := P'.sim.io 0 _ hy
        cases e2
        exact ⟨P'.step.weak nw, P'.sim.mok, m, o'⟩
      | _ => cases h'
  refine ⟨M, startIO N d ds, _, S0, hsp d ds q x h, ⟨fun M' σ' H' ρ' P' h' => ?_, fun _ _ _ _ _ z => z.elim, fun _ _ _ _ _ z => z.elim, fun v M' σ' H' ρ' r' P' R' h' => ?_, fun c M' σ' H' ρ' P' h' => ?_⟩⟩
  · obtain ⟨y, e, h2⟩ := some!_ok h'
    exact k1 .non M' H' (.d .non) y (io P' e) .non h2
  · obtain ⟨y, e, h2⟩ := some!_ok h'
    refine k1 v M' H' r' y (io P' e) ?_ h2
    cases r' with
    | d y => exact R'
    | n y =>
      obtain ⟨a, e, m, o, z, n⟩ := R'
      have na : a ≠ p := fun z => n (by rw [z])
      exact ⟨a, e, z.elim id fun z => (na (nw a z)).elim, m, na, o⟩
    | o _ => exact R'
  · obtain ⟨y, e, h2⟩ := some!_ok h'
    exact k2 c M' H' y (io P' e) h2
end

/-! ### calls -/
def tCall' (sp : PSp) (ta : AT) : ET := fun ρ q x => ta ρ (fun rs ρ1 => some! (settleL ρ1 rs) fun z => sp z.1 (fun r => q r z.2) (fun c => x c z.2)) x
def tCallIO (sp : PSpIO) (ta : AT) : ET := fun ρ q x => ta ρ (fun rs ρ1 => match rs with
  | .o i :: rs' => some! (settleL ρ1 rs') fun z => some! (ownS z.2[i]?) fun d => sp d z.1 (fun r y => q r (put i y z.2)) (fun c y => x c (put i y z.2))
  | _ => False) x
section
variable {X : Cx} {p : Option Addr} {W : WX} {k : Nat} {f : Addr} {fd : FuncData} {ps : List Str} {x : Str} {pp pos : Pos} {e : Expr} {es : List Expr} {t : AT}
theorem de_call {sp : PSp} (F : FnOk X.prog X.w X.K X.mg X.base (L2N.CX X.prog X.w) k f fd ps (liftSp X.K sp)) (tk : L2N.Takes X W) (hr : Room k X.A) (hg : Gl X x) (hm : X.mg x = some (.ref f)) (hk : PySem.W.keepIn X.K (.ref f) = true) (hb : Binds X.K fd ps [])
    (ha : DA X p W (e :: es) t) (hdb : (x == ("__debug__" : Str)) = false := by decide) (he : starEach (e :: es) X.env = (false, eval e X.env) :: starEach es X.env := by rfl) (hpl : (backTo pos (starEach es X.env)).any (·.1) = false := by rfl) :
    DE X p W (.Call (.Name x pp) (e :: es) [] pos) (tCall' sp t) := ⟨PE.imp (pe_callS F hr hg hm hk hb (fun σ => L2N.passAt tk σ) ha.pa hdb he hpl) fun σ H Q ⟨M, ρ, q, xq, S, ht, hq, hx⟩ => by
  refine ⟨M, ρ, _, _, S, ht, fun vs M1 H1 ρ1 rs P1 S1 R1 h1 => ?_, hx⟩
  obtain ⟨⟨ds, ρ2⟩, e1, h2⟩ := some!_ok h1
  obtain ⟨M2, P2, S2, R2⟩ := settleL_ok P1.sim R1 e1
  have P12 := P1.trans S P2
  refine ⟨M2, ds, _, _, P2.sim.mok, R2, h2, fun v M' H' r ok h' => ?_, fun c M' H' st mok h' => hx c M' H' ρ2 (P12.trans S (P2.sim.post st mok)) h'⟩
  obtain ⟨P3, R3⟩ := ok.fin S P12
  exact hq v M' H' ρ2 r P3 trivial R3 h'⟩
theorem de_callIO {sp : PSpIO} (F : FnOk X.prog X.w X.K X.mg X.base (L2N.CX X.prog X.w) k f fd ps (liftIO X.K sp)) (tk : L2N.Takes X W) (hr : Room k X.A) (hg : Gl X x) (hm : X.mg x = some (.ref f)) (hk : PySem.W.keepIn X.K (.ref f) = true) (hb : Binds X.K fd ps [])
    (ha : DA X p W (e :: es) t) (hdb : (x == ("__debug__" : Str)) = false := by decide) (he : starEach (e :: es) X.env = (false, eval e X.env) :: starEach es X.env := by rfl) (hpl : (backTo pos (starEach es X.env)).any (·.1) = false := by rfl) :
    DE X p W (.Call (.Name x pp) (e :: es) [] pos) (tCallIO sp t) := ⟨PE.imp (pe_callS F hr hg hm hk hb (fun σ => L2N.passAt tk σ) ha.pa hdb he hpl) fun σ H Q ⟨M, ρ, q, xq, S, ht, hq, hx⟩ => by
  refine ⟨M, ρ, _, _, S, ht, fun vs M1 H1 ρ1 rs P1 S1 R1 h1 => ?_, hx⟩
  cases R1 with
  | nil => exact h1.elim
  | cons R0 n0 R1 =>
    rename_i v0 vs r0 rs
    cases r0 with
    | o i =>
      obtain ⟨⟨ds, ρ2⟩, e1, h2⟩ := some!_ok h1
      obtain ⟨M2, P2, S2, R2⟩ := settleL_ok P1.sim R1 e1
      obtain ⟨d, e2, h3⟩ := some!_ok h2
      have P12 := P1.trans S P2
      obtain ⟨a, hs, m, o, wa⟩ := own_at P2.sim e2
      obtain rfl : v0 = .ref a := by
        have z := R0.1
        rw [hs] at z
        cases z
        rfl
      refine ⟨a, vs, M2, d, ds, _, _, rfl, m, o, P2.sim.mok, R2, h3, fun v M' H' r y ok res h' => ?_, fun c M' H' y ok h' => hx c M' H' _ (P12.trans S (mut_gen P2.sim e2 hs ok.step ok.mok ok.hot ok.own)) h'⟩
      have P3 := mut_gen P2.sim e2 hs ok.step ok.mok ok.hot ok.own
      refine hq v M' H' _ r (P12.trans S P3) trivial ?_ h'
      cases r with
      | d y => exact RVok.dd res
      | n y =>
        obtain ⟨b, eb, f0, mb, nb, ob⟩ := res
        refine ⟨b, eb, mb, fun z => ?_, dom_back P12.step.dom f0, ob⟩
        exact P2.sim.mok b (P2.sim.hot (put_wr e2 z)) f0
      | o _ => exact res.elim
    | _ => exact h1.elim⟩
end
end DL

set_option Elab.async false
set_option linter.all false
set_option maxRecDepth 100000
set_option maxHeartbeats 4000000
namespace DL
open PySem PySem.Spec PyProof.Rows L2
section
variable {X : Cx} {p : Option Addr} {W : WX} {a b c e : Expr} {ta tb tc te : ET} {pos pos' : Pos} {x : Str}
theorem DE.imp {t u : ET} (h : DE X p W e t) (i : ∀ ρ q x, u ρ q x → t ρ q x) : DE X p W e u := ⟨PE.imp h.pe fun σ H Q ⟨M, ρ, q, xq, S, ht, hq, hx⟩ => ⟨M, ρ, q, xq, S, i ρ q xq ht, hq, hx⟩⟩
theorem DI.imp {t u : IT} {tg : Expr} (h : DI X p W tg e t) (i : ∀ ρ q x, u ρ q x → t ρ q x) : DI X p W tg e u := ⟨PI.imp h.pi fun σ H Q ⟨M, ρ, q, xq, S, ht, hq, hx⟩ => ⟨M, ρ, q, xq, S, i ρ q xq ht, hq, hx⟩⟩
theorem de_add (ha : DE X p W a ta) (hb : DE X p W b tb) : DE X p W (.BinOp a .Add b pos) (t2 fAdd ta tb) := de_op op_addA rAdd_ok ha hb
theorem de_sub (ha : DE X p W a ta) (hb : DE X p W b tb) : DE X p W (.BinOp a .Sub b pos) (t2 fSub ta tb) := de_op op_sub (rI0_ok fun _ _ _ _ => .int _) ha hb
theorem de_mul (ha : DE X p W a ta) (hb : DE X p W b tb) : DE X p W (.BinOp a .Mult b pos) (t2 fMul ta tb) := de_op op_mulA rMul_ok ha hb
theorem de_div (ha : DE X p W a ta) (hb : DE X p W b tb) : DE X p W (.BinOp a .FloorDiv b pos) (t2 fDiv ta tb) := de_op op_fdivW (rI_ok fun _ _ _ _ => .int _) ha hb
theorem de_mod (ha : DE X p W a ta) (hb : DE X p W b tb) : DE X p W (.BinOp a .Mod b pos) (t2 fMod ta tb) := de_op op_mod (rI_ok fun _ _ _ _ => .int _) ha hb
theorem de_pow (ha : DE X p W a ta) (hb : DE X p W b tb) : DE X p W (.BinOp a .Pow b pos) (t2 fPow ta tb) := de_op op_pow (rI_ok fun _ _ _ _ => .int _) ha hb
theorem de_shl (ha : DE X p W a ta) (hb : DE X p W b tb) : DE X p W (.BinOp a .LShift b pos) (t2 fShl ta tb) := de_op op_shlW (rI_ok fun _ _ _ _ => .int _) ha hb
theorem de_shr (ha : DE X p W a ta) (hb : DE X p W b tb) : DE X p W (.BinOp a .RShift b pos) (t2 fShr ta tb) := de_op op_shr (rI_ok fun _ _ _ _ => .int _) ha hb
theorem de_band (ha : DE X p W a ta) (hb : DE X p W b tb) : DE X p W (.BinOp a .BitAnd b pos) (t2 fAnd ta tb) := de_op op_and (rI0_ok fun _ _ _ _ => .int _) ha hb
theorem de_bxor (ha : DE X p W a ta) (hb : DE X p W b tb) : DE X p W (.BinOp a .BitXor b pos) (t2 fXor ta tb) := de_op op_xor (rI0_ok fun _ _ _ _ => .int _) ha hb
theorem de_neg (ha : DE X p W a ta) : DE X p W (.UnaryOp .USub a pos) (t1 fNeg ta) := de_un un_neg neg_ok ha
theorem lt_ok {K : PySem.W.Frag} : R2D K (rI0 fun i j => .bl (decide (i < j))) fLt := rI0_ok fun _ _ _ _ => .bl _
theorem le_ok {K : PySem.W.Frag} : R2D K (rI0 fun i j => .bl (decide (i ≤ j))) fLe := rI0_ok fun _ _ _ _ => .bl _
theorem gt_ok {K : PySem.W.Frag} : R2D K (rI0 fun i j => .bl (decide (j < i))) fGt := rI0_ok fun _ _ _ _ => .bl _
theorem ge_ok {K : PySem.W.Frag} : R2D K (rI0 fun i j => .bl (decide (j ≤ i))) fGe := rI0_ok fun _ _ _ _ => .bl _
theorem de_lt (ha : DE X p W a ta) (hb : DE X p W b tb) : DE X p W (.Compare a [.Lt] [b] pos) (t2 fLt ta tb) := de_cmp op_lt lt_ok ha hb (nomark _)
theorem de_le (ha : DE X p W a ta) (hb : DE X p W b tb) : DE X p W (.Compare a [.LtE] [b] pos) (t2 fLe ta tb) := de_cmp op_le le_ok ha hb (nomark _)
theorem de_gt (ha : DE X p W a ta) (hb : DE X p W b tb) : DE X p W (.Compare a [.Gt] [b] pos) (t2 fGt ta tb) := de_cmp op_gt gt_ok ha hb (nomark _)
theorem de_ge (ha : DE X p W a ta) (hb : DE X p W b tb) : DE X p W (.Compare a [.GtE] [b] pos) (t2 fGe ta tb) := de_cmp op_ge ge_ok ha hb (nomark _)
theorem db_lt (ha : DE X p W a ta) (hb : DE X p W b tb) : DB X p W (.Compare a [.Lt] [b] pos) (tT (t2 fLt ta tb)) := db_cmp op_lt lt_ok ha hb (nomark _)
theorem db_le (ha : DE X p W a ta) (hb : DE X p W b tb) : DB X p W (.Compare a [.LtE] [b] pos) (tT (t2 fLe ta tb)) := db_cmp op_le le_ok ha hb (nomark _)
theorem db_gt (ha : DE X p W a ta) (hb : DE X p W b tb) : DB X p W (.Compare a [.Gt] [b] pos) (tT (t2 fGt ta tb)) := db_cmp op_gt gt_ok ha hb (nomark _)
theorem db_ge (ha : DE X p W a ta) (hb : DE X p W b tb) : DB X p W (.Compare a [.GtE] [b] pos) (tT (t2 fGe ta tb)) := db_cmp op_ge ge_ok ha hb (nomark _)
theorem de_eq {k : Nat} (hr : Room k X.A) (ha : DE X p W a ta) (hb : DE X p W b tb) : DE X p W (.Compare a [.Eq] [b] pos) (t2 fEq ta tb) := de_cmp (op_eqD hr.units) rEq_ok ha hb (nomark _)
theorem de_ne {k : Nat} (hr : Room k X.A) (ha : DE X p W a ta) (hb : DE X p W b tb) : DE X p W (.Compare a [.NotEq] [b] pos) (t2 fNe ta tb) := de_cmp (op_neD hr.units) rNe_ok ha hb (nomark _)
theorem db_eq {k : Nat} (hr : Room k X.A) (ha : DE X p W a ta) (hb : DE X p W b tb) : DB X p W (.Compare a [.Eq] [b] pos) (tT (t2 fEq ta tb)) := db_cmp (op_eqD hr.units) rEq_ok ha hb (nomark _)
theorem db_ne {k : Nat} (hr : Room k X.A) (ha : DE X p W a ta) (hb : DE X p W b tb) : DB X p W (.Compare a [.NotEq] [b] pos) (tT (t2 fNe ta tb)) := db_cmp (op_neD hr.units) rNe_ok ha hb (nomark _)
theorem de_is (ha : DE X p W a ta) (hb : DE X p W b tb) : DE X p W (.Compare a [.Is] [b] pos) (t2 (fIs false) ta tb) := de_cmp op_isA rIs_ok ha hb (nomark _)
theorem de_isnot (ha : DE X p W a ta) (hb : DE X p W b tb) : DE X p W (.Compare a [.IsNot] [b] pos) (t2 (fIs true) ta tb) := de_cmp op_notA rIsNot_ok ha hb (nomark _)
theorem db_is (ha : DE X p W a ta) (hb : DE X p W b tb) : DB X p W (.Compare a [.Is] [b] pos) (tT (t2 (fIs false) ta tb)) := db_cmp op_isA rIs_ok ha hb (nomark _)
theorem db_isnot (ha : DE X p W a ta) (hb : DE X p W b tb) : DB X p W (.Compare a [.IsNot] [b] pos) (tT (t2 (fIs true) ta tb)) := db_cmp op_notA rIsNot_ok ha hb (nomark _)
theorem de_gi {i : Int} (hg : Gl X x) (hm : ∃ t, X.mg x = some (.int i t)) (hd : (x == ("__debug__" : Str)) = false := by decide) : DE X p W (.Name x pos) (tK (.int i)) := by
  obtain ⟨t, hm⟩ := hm
  exact de_gint hg hm hd
/-- built-ins by name -/
theorem de_len (hm : X.mg "len" = none) (ha : DE X p W a ta) (hg : Gl X "len" := by rfl) (he : starEach [a] X.env = (false, eval a X.env) :: starEach [] X.env := by rfl) : DE X p W (.Call (.Name "len" pos') [a] [] pos) (tC' fLen (aCons ta aNil)) := de_callB call_lenA len_ok hg hm PySem.boot_len (da_cons ha da_nil he) (by decide) (by decide) he rfl
theorem de_abs (hm : X.mg "abs" = none) (ha : DE X p W a ta) (hg : Gl X "abs" := by rfl) (he : starEach [a] X.env = (false, eval a X.env) :: starEach [] X.env := by rfl) : DE X p W (.Call (.Name "abs" pos') [a] [] pos) (tC' fAbs (aCons ta aNil)) := de_callB call_abs abs_ok hg hm (by decide +kernel) (da_cons ha da_nil he) (by decide) (by decide) he rfl
theorem de_int1 (hm : X.mg "int" = none) (ha : DE X p W a ta) (hg : Gl X "int" := by rfl) (he : starEach [a] X.env = (false, eval a X.env) :: starEach [] X.env := by rfl) : DE X p W (.Call (.Name "int" pos') [a] [] pos) (tC' fInt1 (aCons ta aNil)) := de_callTy call_int1 int1_ok hg hm (by decide +kernel) (da_cons ha da_nil he) (by decide) (by decide) he rfl
theorem de_tuple (hm : X.mg "tuple" = none) (ha : DE X p W a ta) (hg : Gl X "tuple" := by rfl) (he : starEach [a] X.env = (false, eval a X.env) :: starEach [] X.env := by rfl) : DE X p W (.Call (.Name "tuple" pos') [a] [] pos) (tC' fTuple (aCons ta aNil)) := de_callTy call_tuple_of tuple_ok hg hm (by decide +kernel) (da_cons ha da_nil he) (by decide) (by decide) he rfl
theorem de_list (hm : X.mg "list" = none) (ha : DE X p W a ta) (hg : Gl X "list" := by rfl) (he : starEach [a] X.env = (false, eval a X.env) :: starEach [] X.env := by rfl) : DE X p W (.Call (.Name "list" pos') [a] [] pos) (tC' fList (aCons ta aNil)) := de_callTy call_list_of list_ok hg hm (by decide +kernel) (da_cons ha da_nil he) (by decide) (by decide) he rfl
theorem de_max2 (hm : X.mg "max" = none) (hc : X.calm = true) (ha : DE X p W a ta) (hb : DE X p W b tb) (hg : Gl X "max" := by rfl) (he : starEach [a, b] X.env = (false, eval a X.env) :: starEach [b] X.env := by rfl) (he2 : starEach [b] X.env = (false, eval b X.env) :: starEach [] X.env := by rfl) (hpl : (backTo pos (starEach [b] X.env)).any (·.1) = false := by rfl) :
    DE X p W (.Call (.Name "max" pos') [a, b] [] pos) (tC' fMax2 (aCons ta (aCons tb aNil))) := de_callB (call_max2 hc) ints2_ok hg hm (by decide +kernel) (da_cons ha (da_cons hb da_nil he2) he) (by decide) (by decide) he hpl
theorem de_min2 (hm : X.mg "min" = none) (hc : X.calm = true) (ha : DE X p W a ta) (hb : DE X p W b tb) (hg : Gl X "min" := by rfl) (he : starEach [a, b] X.env = (false, eval a X.env) :: starEach [b] X.env := by rfl) (he2 : starEach [b] X.env = (false, eval b X.env) :: starEach [] X.env := by rfl) (hpl : (backTo pos (starEach [b] X.env)).any (·.1) = false := by rfl) :
    DE X p W (.Call (.Name "min" pos') [a, b] [] pos) (tC' fMin2 (aCons ta (aCons tb aNil))) := de_callB (call_min2 hc) ints2_ok hg hm (by decide +kernel) (da_cons ha (da_cons hb da_nil he2) he) (by decide) (by decide) he hpl
end

/-! ### isinstance -/
inductive TyN where
  | int | bool | tuple | list | str | dict
def TyN.name : TyN → String
  | .int => "int" | .bool => "bool" | .tuple => "tuple" | .list => "list" | .str => "str" | .dict => "dict"
def isD : TyN → D → Option Bool
  | _, .op _ => none
  | .int, .int _ => some true
  | .int, .bl _ => some true
  | .bool, .bl _ => some true
  | .tuple, .tup _ => some true
  | .list, .lst _ => some true
  | .list, .fz _ => some true
  | .str, .str _ => some true
  | .dict, .dic _ => some true
  | .dict, .dit _ => some true
  | _, _ => some false
def fIsi (T : TyN) : D → (RV → Prop) → Prop := fun d q => some! (isD T d) fun b => q (.d (.bl b))
def kindN : D → String
  | .non => "NoneType" | .bl _ => "bool" | .int _ => "int" | .str _ => "str" | .tup _ => "tuple" | .lst _ => "list" | .fz _ => "list" | .dic _ => "dict" | .dit _ => "dict" | .op _ => ""
theorem isD_kit (T : TyN) (d : D) (b : Bool) (h : isD T d = some b) : kitB (kindN d) T.name = some b := by
  cases d with
  | op v => cases T <;> cases h
  | _ => cases T <;> cases h <;> (simp only [kindN, TyN.name]; decide +kernel)
theorem tyx_of {K : PySem.W.Frag} {M : Addr → Prop} {H : Hp} {v : V} {d : D} {T : TyN} {b : Bool} (h : RepC K M H v d) (e : isD T d = some b) : TyX K H v (.type (kindN d)) := by
  cases d with
  | op v => cases T <;> cases e
  | non => rw [h.non]; exact .base .non
  | bl _ => rw [h.bl]; exact .base (.bl _)
  | int _ => rw [h.int]; exact .base (.int _)
  | str _ => rw [h.str]; exact .base (.str _)
  | tup ds =>
    obtain ⟨a, xs, rfl, s, _⟩ := h.tup
    rcases s with ⟨h1 | ⟨o, h1⟩, _⟩ | ⟨o, its, n, h1, h2, _⟩
    · exact .base (.tup h1)
    · exact .fTuple h1
    · exact .kTuple h1 h2
  | lst ds =>
    obtain ⟨a, xs, rfl, h1, _⟩ := h.lst
    exact .base (.lst h1)
  | fz ds =>
    obtain ⟨a, xs, rfl, s, _⟩ := h.fz
    rcases s with ⟨o, h1, _⟩ | ⟨o, its, n, h1, h2, _⟩
    · exact .base (.frz h1)
    · exact .kList h1 h2
  | dic ds =>
    obtain ⟨a, xs, rfl, h1, _⟩ := h.dic
    exact .base (.dK h1)
  | dit ds =>
    obtain ⟨a, xs, rfl, h1, _⟩ := h.dit
    exact .base (.dT h1)
def fIsi2 (T : TyN) : List D → (RV → Prop) → Prop := fun ds q => match ds with
  | [d, .op (.ty n)] => n = T.name ∧ fIsi T d q
  | _ => False
theorem isi_ok {K : PySem.W.Frag} {T : TyN} : RCD K (rIsi K) (fIsi2 T) := by
  intro M H vs ds Q q mok r h k
  unfold fIsi2 at h
  split at h
  · obtain ⟨v, u, rfl, r1, r2⟩ := r.two
    obtain ⟨rfl, h⟩ := h
    obtain ⟨b, e, h⟩ := some!_ok h
    exact ⟨v, u, _, _, b, rfl, by rw [r2.op]; exact .ty _, tyx_of r1 e, kit_ty (isD_kit T _ b e), k _ M H _ (ResOk.same mok (.bl _)) h⟩
  · exact h.elim
theorem rd_cool (ρ : Ev) (r : RV) : rd ρ (cool r) = rd ρ r := by cases r <;> rfl
section
variable {X : Cx} {p : Option Addr} {W : WX} {a : Expr} {ta : ET} {pos pos' pos2 : Pos}
theorem de_isi (T : TyN) {x : Str} (hm : X.mg "isinstance" = none) (hmT : X.mg x = none) (hbT : bootBuiltins x = some (.type T.name)) (ha : DE X p W a ta) (hg : Gl X "isinstance" := by rfl) (hgT : Gl X x := by rfl) (hn : x ≠ "__name__" := by decide) (hd : (x == ("__debug__" : Str)) = false := by decide)
    (he : starEach [a, .Name x pos2] X.env = (false, eval a X.env) :: starEach [.Name x pos2] X.env := by rfl) (he2 : starEach [.Name x pos2] X.env = (false, eval (.Name x pos2) X.env) :: starEach [] X.env := by rfl) (hpl : (backTo pos (starEach [.Name x pos2] X.env)).any (·.1) = false := by rfl) :
    DE X p W (.Call (.Name "isinstance" pos') [a, .Name x pos2] [] pos) (t1 (fIsi T) ta) :=
  DE.imp (de_callB call_isi (isi_ok (T := T)) hg hm (by decide +kernel) (da_cons ha (da_cons (de_k (x := .op (.ty T.name)) (pe_bltn hgT hmT hbT (v := .ty T.name) rfl hn hd) fun _ _ => .op _) da_nil he2) he) (by decide) (by decide) he hpl) fun ρ q x h => by
    have e : (fun r ρ1 => f1 (fIsi T) (rd ρ1 r) fun z => q z ρ1) = fun r ρ1 => some! (rdL ρ1 [cool r, cool (RV.d (.op (.ty T.name)))]) fun ds => fIsi2 T ds fun z => q z ρ1 := by
      funext r ρ1
      have e2 : rdL ρ1 [cool r, cool (RV.d (.op (.ty T.name)))] = match rd ρ1 r with
        | some d => some [d, .op (.ty T.name)]
        | none => none := by
        show (match rd ρ1 (cool r), rdL ρ1 [RV.d (.op (.ty T.name))] with
          | some x, some xs => some (x :: xs)
          | _, _ => none) = _
        rw [rd_cool]
        cases rd ρ1 r <;> rfl
      rw [e2]
      cases rd ρ1 r with
      | none => rfl
      | some d => exact propext ⟨fun h => ⟨rfl, h⟩, fun h => h.2⟩
    have h : ta ρ (fun r ρ1 => f1 (fIsi T) (rd ρ1 r) fun z => q z ρ1) x := h
    rw [e] at h
    exact h
end
end DL

set_option Elab.async false
set_option linter.all false
set_option maxRecDepth 100000
set_option maxHeartbeats 4000000
namespace DL
open PySem PySem.Spec PyProof.Rows L2 RT
section
variable {prog : Program} {w : World} {A : Around} {E : Value → Shared → Prop} {s : Shared}
/-- list(it), it the walk of the list l from its end -/
theorem list_of_rev {it l : Addr} {items : Array Value} {Q : Value → Shared → Prop} (hh : A.handled = none) (hit : s.heap.IsRevIter it l ((items.size : Int) - 1)) (hl : s.heap.IsList l items) (hne : l ≠ it) (hn : items.size ≤ sizeLine)
    (hQ : ∀ (s' : Shared) (acc : Array Value) (c : Nat), (∀ b o, b ≠ it → s.heap.get? b = some o → s'.heap.get? b = some o) → s'.os = s.os → s'.gens = s.gens → s'.drawn = s.drawn → s.heap.get? s.heap.objs.size = none →
      s'.heap.get? s.heap.objs.size = some { cls := .type "list", dict := none, data := .seq acc c, slots := #[] } → ItemsOf (fun i v => items[items.size - 1 - i]? = some v) acc items.size → Q (.ref s.heap.objs.size) s') :
    wpAny (model prog w) A (call (.type "list") [.ref it]) Q E s := by
  obtain ⟨oi, hoi, _⟩ := id hit
  obtain ⟨ol, hol, _⟩ := id hl
  have hSi : s.heap.objs.size ≠ it := Nat.ne_of_gt (Heap.lt_size hoi)
  have hSl : s.heap.objs.size ≠ l := Nat.ne_of_gt (Heap.lt_size hol)
  have hSf : s.heap.objs.size ∉ [it, l] := by simp only [List.mem_cons, List.not_mem_nil, or_false, not_or]; exact ⟨hSi, hSl⟩
  refine callType_codes (Q₁ := fun obj s₁ => obj = .ref s.heap.objs.size ∧ s₁ = { s with heap := s.heap.push { cls := .type "list", data := .seq #[] } }) F.called_list (F.typeCall_list_1 _) F.entry_list_init (code_list_new _ ⟨rfl, rfl⟩) fun obj s₁ h₁ => ?_
  obtain ⟨rfl, rfl⟩ := h₁
  have hS : (s.heap.push { cls := .type "list", data := .seq #[] }).get? s.heap.objs.size = some { cls := .type "list", data := .seq #[] } := Heap.get?_push_size _ rfl
  refine ⟨⟨_, hS, rfl⟩, F.args_list_init_2 _ _, ?_⟩
  generalize hs1 : ({ s with heap := s.heap.push { cls := .type "list", data := .seq #[] } } : Shared) = s1 at *
  have W := (Walks.listRev (prog := prog) (w := w) (A := A.in1.in1) hh it l hne items).toS
  show wpAny _ A.in1.in1 (do let old ← Builtin.List.listItems (.ref s.heap.objs.size); Builtin.List.listUpdate (.ref s.heap.objs.size) (fun _ => #[]); letGo old.toList.reverse; Builtin.List.listExtendWith (.ref s.heap.objs.size) (.ref it) .none) _ _ _
  refine wpAny_bind ?_
  unfold Builtin.List.listItems
  have hS' : s1.heap.get? s.heap.objs.size = some { cls := .type "list", data := .seq #[] } := by rw [← hs1]; exact hS
  refine wpAny_bind (wpAny_seqItems hS' rfl (wpAny_pure ?_))
  show wpAny _ A.in1.in1 (updateSeq s.heap.objs.size (fun _ => #[]) >>= fun _ => letGo (#[] : Array Value).toList.reverse >>= fun _ => Builtin.List.listExtendWith (.ref s.heap.objs.size) (.ref it) .none) _ _ _
  refine wpAny_bind (wpAny_updateSeq hS' rfl ?_)
  have hS₂ := Heap.get?_update_self (Obj.mapSeq (fun _ => (#[] : Array Value))) hS' rfl
  have oth : ∀ b o, b ≠ s.heap.objs.size → s1.heap.get? b = some o → (s1.heap.update s.heap.objs.size (Obj.mapSeq (fun _ => (#[] : Array Value)))).get? b = some o :=
    fun b o hb e => (Heap.get?_update_other _ _ (Ne.symm hb)).trans e
  have k1 : ∀ b o, s.heap.get? b = some o → s1.heap.get? b = some o := fun b o e => by rw [← hs1]; exact Heap.get?_push_of_some _ e
  refine wpAny_bind (wpAny_letGo ?_)
  generalize hh2 : s1.heap.update s.heap.objs.size (Obj.mapSeq (fun _ => (#[] : Array Value))) = h2 at *
  have k2 : ∀ b o, s.heap.get? b = some o → h2.get? b = some o := fun b o e => oth b o (Nat.ne_of_lt (Heap.lt_size e)) (k1 b o e)
  have hit2 : h2.IsRevIter it l ((items.size : Int) - 1) := hit.at fun o e => k2 it o e
  have hl2 : h2.IsList l items := by
    obtain ⟨o, ho, c, n, d⟩ := id hl
    exact ⟨o, k2 l o ho, c, n, d⟩
  have hT : ({ s1 with heap := h2 } : Shared).TypeIs (.ref it) "list_reverseiterator" := Heap.IsRevIter.typeIs (s := { s1 with heap := h2 }) hit2
  have h1 : Builtin.List.listSameRef (.ref s.heap.objs.size) (.ref it) = false := by simp [Builtin.List.listSameRef, hSi]
  unfold Builtin.List.listExtendWith
  refine wpAny_bind (wpAny_typeOf hT ?_)
  rw [if_neg (by rw [h1]; decide)]
  refine wpAny_bind (wpAny_pyIter_revIter (s := { s1 with heap := h2 }) hit2 ?_)
  refine wpAny_bind (wpAny_holding ?_)
  unfold Builtin.List.listLengthHint
  refine wpAny_bind (wpAny_specialOf hT nolen_lri ?_)
  show wpAny _ A.in1.in1 (specialOf (Value.ref it) (Str.ofString "__length_hint__") >>= _) _ _ _
  refine wpAny_bind (wpAny_specialOf hT hint_lri ?_)
  generalize hid : ("list_reverseiterator.__length_hint__" : String) = id0
  wp_delta
  rw [show splitId id0 = some ("list_reverseiterator", "__length_hint__") from by subst hid; decide +kernel]
  subst hid
  refine wpAny_bind (wpAny_isInstance (b := true) hT (by rw [isSubtype_type]; kernel_rfl) ?_)
  refine wpAny_pure ?_
  rw [if_neg (by decide)]
  have e0 : ((items.size : Nat) : Int) - 1 - ((0 : Nat) : Int) = (items.size : Int) - 1 := by omega
  refine wpAny_pure ⟨plainId_quiet F.plain_extend_loop _, codeAny_extend_loopS W hn _ hSf _ items.size 0 _ _ _ rfl (Nat.zero_le _) ⟨Nat.zero_le _, by rw [e0]; exact hit2, hl2⟩ hS₂ (ItemsOf.nil _) fun s' acc' c' hm hS' hacc => ?_⟩
  refine ⟨rfl, hQ s' acc' c' (fun b o hb e => hm.heap b o (fun hmem => ?_) (k2 b o e)) ?_ ?_ ?_ (Heap.get?_none_of_le (Nat.le_refl _)) hS' hacc⟩
  · rcases List.mem_cons.mp hmem with e' | hmem
    · exact absurd (Heap.lt_size e) (by rw [e']; exact Nat.lt_irrefl _)
    · exact hb (List.mem_singleton.mp hmem)
  all_goals rw [Moved.eq_with hm, ← hs1]
end
/-- list(reversed(x)), x a list: a new list -/
def tLstRev (K : PySem.W.Frag) (te : TE) : TE := fun σ H Q => te σ H fun v H1 => ∃ (a : Addr) (xs : List V), v = .ref a ∧ SqL K H1 a xs ∧ ∀ q, H1 q = none → Q (.ref q) (upd H1 q (.lst xs.reverse))
section
variable {X : Cx}
theorem pe_lstRev {e : Expr} {te : TE} {p p2 pos pos2 : Pos} (hc : X.calm = true) (hg : Gl X "list") (hm : X.mg "list" = none) (hg2 : Gl X "reversed") (hm2 : X.mg "reversed" = none) (he : PE X e te)
    (hs : starEach [e] X.env = (false, eval e X.env) :: starEach [] X.env := by rfl)
    (hs2 : starEach [.Call (.Name "reversed" p2) [e] [] pos2] X.env = (false, eval (.Call (.Name "reversed" p2) [e] [] pos2) X.env) :: starEach [] X.env := by rfl) :
    PE X (.Call (.Name "list" p) [.Call (.Name "reversed" p2) [e] [] pos2] [] pos) (tLstRev X.K te) := ⟨fun pins s σ H Q I h => by
  refine Call_ (ld_blt I hg hm PyProof.Rows.boot_list (PyProof.Rows.callWith_type1 (args_cons (Call_ (ld_blt I hg2 hm2 PyProof.Rows.boot_reversed (PyProof.Rows.callWith_type1 (args_cons (thn (he.run pins s σ H _ I h) fun u s1 hu => args_nil ?_) hs) hs rfl))) hs2) hs2 rfl))
  obtain ⟨v, H1, I1, r1, a, xs, ev, hq, q⟩ := hu
  subst ev
  obtain rfl : u = Value.ref a := r1
  obtain ⟨its, rv, p', hz⟩ := I1.list hq
  refine call_reversed_list p'.isList (args_nil ?_)
  have k0 : ∀ b o, s1.heap.get? b = some o → (s1.heap.push (revObj a ((its.toArray.size : Int) - 1))).get? b = some o := fun b o e => Heap.get?_push_of_some _ e
  have I2 : Inv X pins σ H1 { s1 with heap := s1.heap.push (revObj a ((its.toArray.size : Int) - 1)) } := I1.kept (t' := s1.toks) k0
  obtain ⟨f0, f1, f2, f3, f4, f5⟩ := I1.fpOk (H' := H1) (b := s1.heap.objs.size) (Nat.le_refl _) I1.fresh
  have hl := p'.isList
  obtain ⟨ol, hol, _⟩ := id hl
  have hne : a ≠ s1.heap.objs.size := Nat.ne_of_lt (Heap.lt_size hol)
  have hn : its.toArray.size ≤ sizeLine := by rw [List.size_toArray, ← rv.length]; exact hz
  refine list_of_rev (s := { s1 with heap := s1.heap.push (revObj a ((its.toArray.size : Int) - 1)) }) (I1.ok.hd hc) ⟨_, Heap.get?_push_size _ rfl, rfl, rfl⟩ (hl.push _) hne hn fun s' acc c hk e1 e2 e3 hno hS hi => ?_
  have hd : (s1.heap.push (revObj a ((its.toArray.size : Int) - 1))).objs.size ≠ s1.heap.objs.size := by rw [Heap.size_push]; exact Nat.succ_ne_self _
  have hfr : H1 (s1.heap.push (revObj a ((its.toArray.size : Int) - 1))).objs.size = none := I2.hok.fresh (Nat.le_refl _)
  have hlay : ((s1.heap.push (revObj a ((its.toArray.size : Int) - 1))).push { cls := .type "list", dict := none, data := .seq acc c, slots := #[] }).get? (s1.heap.push (revObj a ((its.toArray.size : Int) - 1))).objs.size = some { cls := .type "list", dict := none, data := .seq acc c, slots := #[] } := Heap.get?_push_size _ rfl
  have I3 := I2.laid (t' := s1.toks) (o := .lst xs.reverse) (a := (s1.heap.push (revObj a ((its.toArray.size : Int) - 1))).objs.size) (h' := (s1.heap.push (revObj a ((its.toArray.size : Int) - 1))).push { cls := .type "list", dict := none, data := .seq acc c, slots := #[] }) (fun b o e => Heap.get?_push_of_some _ e) (Nat.le_refl _)
    (show ObjOk X.prog X.w _ _ _ (.lst xs.reverse) from ⟨by rw [List.length_reverse]; exact hz, acc.toList, c, vals_rev rv hi, by rw [Array.toArray_toList]; exact hlay⟩)
  have I4 := I3.turned (it := s1.heap.objs.size) (h' := s'.heap) (t' := s'.toks) (fun b o hb e => by
    by_cases hbn : b = (s1.heap.push (revObj a ((its.toArray.size : Int) - 1))).objs.size
    · subst hbn
      rw [hlay] at e
      cases e
      exact hS
    · refine hk b o hb ?_
      rcases Heap.get?_push_cases e with ⟨z, _⟩ | z
      · exact absurd z hbn
      · exact z) (by rw [upd_ne hd.symm]; exact f0) f1 f3 f4 f5
  refine ⟨.ref _, _, ?_, rfl, q _ hfr⟩
  obtain ⟨sh, sg, sd, st, so⟩ := s'
  dsimp only at e1 e2 e3 I4
  subst e1 e2 e3
  exact I4⟩
variable {p0 : Option Addr} {W : WX}
def fLRev : D → (RV → Prop) → Prop := fun d q => match d with
  | .lst xs => q (.n (.lst xs.reverse))
  | _ => False
theorem de_lrev {e : Expr} {te : ET} {p p2 pos pos2 : Pos} (hc : X.calm = true) (hm : X.mg "list" = none) (hm2 : X.mg "reversed" = none) (he : DE X p0 W e te) (hg : Gl X "list" := by rfl) (hg2 : Gl X "reversed" := by rfl)
    (hs : starEach [e] X.env = (false, eval e X.env) :: starEach [] X.env := by rfl)
    (hs2 : starEach [.Call (.Name "reversed" p2) [e] [] pos2] X.env = (false, eval (.Call (.Name "reversed" p2) [e] [] pos2) X.env) :: starEach [] X.env := by rfl) :
    DE X p0 W (.Call (.Name "list" p) [.Call (.Name "reversed" p2) [e] [] pos2] [] pos) (t1 fLRev te) :=
  ⟨PE.imp (pe_lstRev hc hg hm hg2 hm2 he.pe hs hs2) fun σ H Q h => t1_ok (r := fun v H1 Q => ∃ (a : Addr) (xs : List V), v = .ref a ∧ SqL X.K H1 a xs ∧ ∀ q, H1 q = none → Q (.ref q) (upd H1 q (.lst xs.reverse))) (fun M H x a Q q mok ra h k => by
    cases a with
    | lst ds =>
      obtain ⟨b, xs, e, hx, r⟩ := ra.lst
      exact ⟨b, xs, e, SqL.of hx, fun l hl => k _ _ _ _ (ResOk.lst mok hl r.rev) h⟩
    | _ => exact h.elim) h⟩
end
end DL

set_option Elab.async false
set_option linter.all false
set_option maxRecDepth 100000
set_option maxHeartbeats 4000000
namespace DL
open PySem PySem.Spec PyProof.Rows L2
/-! ### raise -/
/-- what the top says of an error class of one's own -/
structure ErrC (K : PySem.W.Frag) (mg : Str → Option Value) (x : Str) (C : Addr) : Prop where
  ex : PySem.W.excIn K C [.type "ValueError", .type "Exception", .type "BaseException", .type "object"] "ValueError.__new__" = true
  gC : mg x = some (.ref C)
  kC : PySem.W.keepIn K (.ref C) = true
  bC : PySem.W.subIn K (.ref C) (.type "BaseException") = some true
  tC : PySem.W.typeIn K (.ref C) = some (.type "type")
def sRaise (C : Addr) : ST := fun e ρ => e.xc C ρ
section
variable {X : Cx} {p : Option Addr} {W : WX}
theorem ds_raise {x m : Str} {C : Addr} {j : Nat} {p1 p2 p3 pos : Pos} (hc : X.calm = true) (tk : L2N.Takes X W) (E : ErrC X.K X.mg x C) (hg : Gl X x := by rfl) (hdb : (x == ("__debug__" : Str)) = false := by decide) :
    DS X p W (.Raise (some (.Call (.Name x p1) [.Constant (.str m) j p2] [] p3)) none pos) (sRaise C) :=
  ⟨PS.imp (L2N.ps_raise hc tk (L2N.pmk_own PySem.F.excBase_ValueError E.ex E.gC E.kC (raises_own E.bC E.tC) hg hdb)) fun D σ H ⟨M, ρ, e, S, h, l⟩ => l.xc C M σ H ρ (Post.refl S) h⟩
theorem takesNo (hx : X.xe = fun _ _ => False) : L2N.Takes X wNo := fun _ _ ⟨_, _, _, _, _, _, _, _, _, _, _, _, _, _, _, _, z⟩ => z.elim
end

/-! ### within an except suite: a list's walk -/
section
variable {prog : Program} {w : World} {A : Around} {E : Value → Shared → Prop} {s : Shared}
open HotX in
theorem list_end_hot {it l x1 : Addr} {i : Nat} {items : Array Value} {Q : Option Value → Shared → Prop} (hot : HotAt A x1 s.heap) (hit : s.heap.IsListIter it l i) (hl : s.heap.IsList l items) (hx : items[i]? = none) (n1 : x1 ≠ it)
    (hQ : ∀ h', (∀ b o, b ≠ it → s.heap.get? b = some o → h'.get? b = some o) → Q none { s with heap := h' }) : wpAny (model prog w) A (pyNext (.ref it)) Q E s := by
  obtain ⟨hh, o1, vs1, h1, d1, c1⟩ := hot
  obtain ⟨o, ho, hc, hd⟩ := id hit
  obtain ⟨ol, hol, _, nl, hdl⟩ := hl
  unfold pyNext
  refine wpAny_bind (wpAny_attempt (wpAny_callSpecial?_slot (name := Str.ofString "__next__") hit.typeIs slot_listiter_next (wpAny_call_entry slot_listiter_next hit.typeIs entry_listiter_next ?_ (args_listiter_next _))))
  show wpAny _ _ (field (.ref it) 0 >>= _) _ _ s
  refine wpAny_bind (wpAny_field ho hd (x := .ref l) rfl ?_)
  show wpAny _ _ (if (Value.ref l == Value.none) = true then _ else _) _ _ s
  rw [if_neg (show ¬ ((Value.ref l == Value.none) = true) from Bool.false_ne_true)]
  show wpAny _ _ (field (.ref it) 1 >>= _) _ _ s
  refine wpAny_bind (wpAny_field ho hd (x := .int i 0) rfl ?_)
  show wpAny _ _ (seqItems? (.ref l) >>= _) _ _ s
  refine wpAny_bind (wpAny_seqItems hol hdl ?_)
  simp only [Int.toNat_natCast, hx]
  refine wpAny_bind (wpAny_rule (wpAny_bind (wpAny_setField ho hd (by simp) ?_)))
  show wpAny _ _ (newExc (.type "StopIteration") [] >>= _) _ _ _
  have up : ∀ b u, b ≠ it → s.heap.get? b = some u → (s.heap.update it (Obj.mapFields (·.setIfInBounds 0 Value.none))).get? b = some u := fun b u hb e => (Heap.get?_update_other _ _ (Ne.symm hb)).trans e
  refine wpAny_bind ?_
  simp only [newExc, newTuple]
  refine wpAny_bind (wpAny_newObj_type ?_ (by size_fits))
  refine wpAny_bind (m := firstArgMember _ _) (wpAny_of_eq (a := Value.none) (by first | rfl | (simp only [firstArgMember]; rfl)) ?_)
  refine wpAny_newObj_type ?_ (by size_fits)
  refine raiseNew_hot ⟨hh, o1, vs1, Heap.get?_push_of_some _ (Heap.get?_push_of_some _ (up _ _ n1 h1)), d1, c1⟩ (Nat.ne_of_lt (Heap.lt_size (Heap.get?_push_of_some _ (up _ _ n1 h1)))) (Heap.get?_push_size _ rfl) rfl (by first | (simp; done) | (simp; omega)) ?_
  refine wpAny_bind (wpAny_isInstance (T := "StopIteration") (b := true) ⟨_, Heap.get?_update_self _ (Heap.get?_push_size _ rfl) rfl, rfl⟩ isSubtype_stop ?_)
  refine wpAny_pure (hQ _ fun b u hb e => ?_)
  have e2 := Heap.get?_push_of_some (o := { cls := .type "tuple", data := .seq ([] : List Value).toArray }) (up b u hb e)
  rw [Heap.get?_update_other _ _ (Nat.ne_of_gt (Heap.lt_size e2))]
  exact Heap.get?_push_of_some _ e2
end

/-! ### a comprehension over a list, within an except suite -/
open L2H in
/-- [e for x in l if ..]: g the target's reading, tt the test's, te the element's; Pv by the turn and the heap, the new list at D -/
def tLcHot (K : PySem.W.Frag) (tl : TE) (g : TG) (tt : TT) (te : TE) (vs : List Nat) : TE := fun σ H Q => tl σ H fun x H1 => ∃ a xs, x = .ref a ∧ SqL K H1 a xs ∧ ∀ D, H1 D = none → ∃ Pv : Nat → Hp → Prop, Pv 0 (upd H1 D (.lst [])) ∧
  (∀ i H, Pv i H → SqL K H a xs) ∧ (∀ i x H, xs[i]? = some x → Pv i H → g x (wipe σ vs) H fun σ2 H2 => wipe σ2 vs = wipe σ vs ∧ tt σ2 H2 fun b H3 =>
    if b = true then te σ2 H3 fun y H4 => ∃ acc, H4 D = some (.lst acc) ∧ acc.length < sizeLine ∧ Pv (i + 1) (upd H4 D (.lst (acc ++ [y]))) else Pv (i + 1) H3) ∧ (∀ H, Pv xs.length H → Q (.ref D) H)
section
variable {X : Cx}
open L2H HotX in
theorem pe_lcHot {elt tg l : Expr} {ifs : List Expr} {scope : Scope} {own : List (Str × Nat)} {pos : Pos} {tl : TE} {g : TG} {tt : TT} {te : TE} (hot : HotC X) (hN : X.N.Nodup) (hl : PE X l tl) (ok : BlkOk X.N X.env.scope scope own)
    (hg : ∀ (s : Shared) (H : Hp) (C : Addr) (cl : List (Str × Addr)) (fp : List Addr), PG (X.blk s H scope (compEnvC scope cl C X.env) fp) tg g) (ht : ∀ (s : Shared) (H : Hp) (C : Addr) (cl : List (Str × Addr)) (fp : List Addr), PTs (X.blk s H scope (compEnvC scope cl C X.env) fp) ifs tt)
    (he : ∀ (s : Shared) (H : Hp) (C : Addr) (cl : List (Str × Addr)) (fp : List Addr), PE (X.blk s H scope (compEnvC scope cl C X.env) fp) elt te) (hs : ∀ x, foldedSetIterable l X.env x = pure x := by intro _; rfl) :
    PE X (.ListComp elt [⟨tg, l, ifs, 0⟩] scope pos) (tLcHot X.K tl g tt te (own.map (·.2))) := ⟨fun pins s σ H Q I h => by
  obtain ⟨p, ⟨hh, v1, e1, c1⟩, hp⟩ := hot
  have hfree : ∀ y ∈ scope.names, y.2 = .free → ∃ c, X.env.cells.lookup y.1 = some c := fun y hy e => (ok.free y hy e).elim (fun k => I.ok.has _ (.inl k)) fun k => I.ok.has _ (.inr k)
  rw [eval_ListComp]
  refine wpAny_comprehension_free (use := none) rfl hs (closure_ok hfree) ok.kind (fun y hy e => by rw [ok.uniq y hy, e]) (thn (hl.run pins s σ H _ I h) fun xv s1 hx => ?_)
  obtain ⟨x, H1, I1, rx, a, xs, rfl, hq, kk⟩ := hx
  cases rx
  obtain ⟨us, vu, pl, hz⟩ := I1.list hq
  refine wpAny_pyIter_list pl.isList ?_
  have I2 : Inv X pins σ H1 { s1 with heap := s1.heap.push { cls := .type "list_iterator", data := .fields #[.ref a, .int 0 0] } } := I1.kept (t' := s1.toks) fun b o e => Heap.get?_push_of_some _ e
  have T0 : ({ s1 with heap := s1.heap.push { cls := .type "list_iterator", data := .fields #[.ref a, .int 0 0] } } : Shared).heap.IsListIter s1.heap.objs.size a 0 := ⟨_, Heap.get?_push_size _ rfl, rfl, rfl⟩
  have F0 : FpOk X pins H1 s1.heap.objs.size := I1.fpOk (Nat.le_refl _) I1.fresh
  generalize hit : s1.heap.objs.size = it at T0 F0 ⊢
  generalize hs2 : ({ s1 with heap := s1.heap.push { cls := .type "list_iterator", data := .fields #[.ref a, .int 0 0] } } : Shared) = s2 at I2 T0 ⊢
  refine wpAny_newObj_type (newEnv_comp ?_) (by show 0 ≤ sizeLine; decide)
  generalize hD : s2.heap.objs.size = D
  have hDn : H1 D = none := I2.hok.fresh (Nat.le_of_eq hD)
  have itlt : it < s2.heap.objs.size := by
    obtain ⟨o, e, _⟩ := T0
    exact Heap.lt_size e
  obtain ⟨Pv, w0, stay, turn, done⟩ := kk D hDn
  generalize hs3 : ({ s2 with heap := s2.heap.push { cls := .type "list", data := .seq ([] : List Value).toArray } } : Shared) = s3
  have h3 : s3.heap = s2.heap.push { cls := .type "list", data := .seq ([] : List Value).toArray } := by rw [← hs3]
  have I3 : Inv X pins σ (upd H1 D (.lst [])) s3 := by
    rw [← hs3]
    refine I2.laid (t' := s2.toks) (fun b o e => Heap.get?_push_of_some _ e) (Nat.le_of_eq hD) ⟨Nat.zero_le _, [], 0, .nil, ?_⟩
    rw [← hD]
    exact Heap.get?_push_size _ rfl
  have F3 : ∀ b ∈ [it], FpOk X pins (upd H1 D (.lst [])) b ∧ b < s3.heap.objs.size := fun b hb => by
    rw [List.mem_singleton.mp hb]
    exact ⟨⟨by rw [upd_ne (by rw [← hD]; exact Nat.ne_of_lt itlt)]; exact F0.1, F0.2⟩, by rw [h3, Heap.size_push]; exact Nat.lt_succ_of_lt itlt⟩
  have T3 : s3.heap.IsListIter it a 0 := T0.at fun o e => by rw [h3]; exact Heap.get?_push_of_some _ e
  have I4 := block_start I3 ok hN F3
  have pg := hg s3 (upd H1 D (.lst [])) s3.heap.objs.size (cellsFrom (s3.heap.objs.size + 1) scope.names (cloFrom X.env.cells scope.names [])) [it]
  have pt := ht s3 (upd H1 D (.lst [])) s3.heap.objs.size (cellsFrom (s3.heap.objs.size + 1) scope.names (cloFrom X.env.cells scope.names [])) [it]
  have pe := he s3 (upd H1 D (.lst [])) s3.heap.objs.size (cellsFrom (s3.heap.objs.size + 1) scope.names (cloFrom X.env.cells scope.names [])) [it]
  -- the exception that is handled, as it stands within the block
  have PP := I3.pin p (List.mem_append_left _ hp)
  have pnf : p.1 ∉ frs X.stack := fun hm => (List.mem_cons.mp (I3.stkSub p.1 hm)).elim PP.2.2.1 PP.2.2.2.1
  have pni : p.1 ≠ it := fun z => by
    have q := F0.2.2.2.2.2 p (List.mem_append_left _ hp)
    exact q z
  show codeAny _ _ (.compStart (.ListComp elt [⟨tg, l, ifs, 0⟩] scope pos) 0 (.ref it) (.ref D) (compEnvC scope (cellsFrom (s3.heap.objs.size + 1) scope.names (cloFrom X.env.cells scope.names [])) s3.heap.objs.size X.env)) (compPost (model X.prog X.w) X.A X.xe none (EP X pins σ Q) (.ref D) s3.heap.objs.size) { s3 with heap := pushCells (s3.heap.push { cls := .type "dict", data := .dict #[] }) scope.names }
  generalize hce : compEnvC scope (cellsFrom (s3.heap.objs.size + 1) scope.names (cloFrom X.env.cells scope.names [])) s3.heap.objs.size X.env = ce at I4 pg pt pe ⊢
  have cL : ce.locals = s3.heap.objs.size := by subst hce; rfl
  generalize hH3 : upd H1 D (.lst []) = H3 at I3 I4 pg pt pe w0 F3 PP
  generalize hs4 : ({ s3 with heap := pushCells (s3.heap.push { cls := .type "dict", data := .dict #[] }) scope.names } : Shared) = s4 at I4 ⊢
  have T4 : s4.heap.IsListIter it a 0 := T3.at fun o e => by rw [← hs4]; exact pushCells_keeps _ _ _ _ (Heap.get?_push_of_some _ e)
  have hotB : ∀ {pn : List (Addr × Obj)} {σ' : L2.St} {H' : Hp} {s' : Shared}, Inv (X.blk s3 H3 scope ce [it]) pn σ' H' s' → HotAt X.A p.1 s'.heap := fun {pn σ' H' s'} I' =>
    ⟨hh, p.2, v1, I'.base.keep p.1 p.2 PP.1 PP.2.1 pnf fun z => pni (List.mem_singleton.mp z), e1, c1⟩
  have stat : ∀ {σ' : L2.St} {H' : Hp} {s' : Shared}, Inv (X.blk s3 H3 scope ce [it]) [] σ' H' s' → H' it = none → FpOk (X.blk s3 H3 scope ce [it]) [] H' it := fun {σ' H' s'} I' hn =>
    ⟨hn, (I'.ok.exf it List.mem_cons_self).1, I'.ok.exfs it List.mem_cons_self, .inl List.mem_cons_self, fun x c e => (I'.ok.exf it List.mem_cons_self).2 x c e, fun q hq => absurd (show q ∈ ([] : List (Addr × Obj)) ++ [] from hq) (by simp)⟩
  have loop : codeAny (model X.prog X.w) X.A (.compLoop (.ListComp elt [⟨tg, l, ifs, 0⟩] scope pos) 0 (.ref it) (.ref D) ce) (compPost (model X.prog X.w) X.A X.xe none (EP X pins σ Q) (.ref D) s3.heap.objs.size) s4 := by
    refine compLoop_any (fun n s' => ∃ i H', i + n = xs.length ∧ Inv (X.blk s3 H3 scope ce [it]) [] (wipe σ (own.map (·.2))) H' s' ∧ s'.heap.IsListIter it a i ∧ H' it = none ∧ Pv i H') ?_ xs.length ⟨0, H3, Nat.zero_add _, I4, T4, (F3 it List.mem_cons_self).1.1, w0⟩
    rintro n s5 ⟨i, H5, en, I5, T5, n5, w5⟩
    have q5 := stay i H5 w5
    obtain ⟨us5, vu5, pl5, hz5⟩ := I5.list q5
    obtain ⟨f0, f1, f2, f3, f4, f5⟩ := stat I5 n5
    by_cases hlt : i < xs.length
    · obtain ⟨u, hu, ru⟩ := vu5.get (List.getElem?_eq_getElem hlt)
      refine wpAny_pyNext_list_item T5 pl5.isList (x := u) (by simpa using hu) fun h' T6 sb => ?_
      have I6 : Inv (X.blk s3 H3 scope ce [it]) [] (wipe σ (own.map (·.2))) H5 { s5 with heap := h' } := I5.turned (t' := s5.toks) (fun b o hb e => (sb.2 b hb).trans e) f0 f1 f3 f4 f5
      obtain ⟨oi, ei, ci, di⟩ := id T6
      refine go_of (s := { s5 with heap := h' }) ei ci di (by decide) ?_
      have J6 := I6.pinned (fp := [it]) (fun b hb => by rw [List.mem_singleton.mp hb]; exact stat I6 n5) fun b hb => by rw [List.mem_singleton.mp hb]; exact ⟨oi, ei, fun v z => by rw [di] at z; cases z⟩
      refine thnF (pg.run _ _ _ H5 xs[i] u _ J6 ru (turn i xs[i] H5 (List.getElem?_eq_getElem hlt) w5)) fun _ s8 ⟨σ8, H8, I8, hw8, q8⟩ => ?_
      refine thnF (pt.run _ s8 σ8 H8 _ I8 q8) fun b s9 ⟨H9, I9, q9⟩ => ?_
      have fin : ∀ {s' : Shared} {H' : Hp}, Inv (X.blk s3 H3 scope ce [it]) ([] ++ pinsAt [it] h') σ8 H' s' → Pv (i + 1) H' → ∃ m, m < n ∧ ∃ i H', i + m = xs.length ∧ Inv (X.blk s3 H3 scope ce [it]) [] (wipe σ (own.map (·.2))) H' s' ∧ s'.heap.IsListIter it a i ∧ H' it = none ∧ Pv i H' := fun {s' H'} I' nx => by
        have pin' := I'.pin (it, oi) (List.mem_append_right _ (List.mem_append_right _ (mem_pinsAt List.mem_cons_self ei)))
        have hl8 : (wipe σ (own.map (·.2))).length = σ8.length := by rw [← hw8, wipe_length]
        refine ⟨n - 1, by omega, i + 1, H', by omega, (I'.unpinned (pins := [])).weak hl8 (fun j v e => ?_), T6.at fun o e => ?_, pin'.2.1, nx⟩
        · rw [← hw8] at e
          exact (wipe_some e).1
        · have e9 : h'.get? it = some o := e
          rw [ei] at e9
          cases e9
          exact pin'.1
      cases b with
      | false =>
        rw [if_neg Bool.false_ne_true] at q9
        exact fin I9 q9
      | true =>
        rw [if_pos rfl] at q9
        refine thnF (pe.run _ s9 σ8 H9 _ I9 q9) fun z s10 ⟨yv, H10, I10, r10, acc, hD10, hz10, nx⟩ => ?_
        exact app_ok (X := X.blk s3 H3 scope ce [it]) I10 hD10 hz10 r10 fun s11 I11 => fin I11 nx
    · have ei : i = xs.length := by omega
      subst ei
      have el := vu5.length
      refine list_end_hot (hotB I5) T5 pl5.isList (by simp; omega) pni fun h' eb => ?_
      have I6 : Inv (X.blk s3 H3 scope ce [it]) [] (wipe σ (own.map (·.2))) H5 { s5 with heap := h' } := I5.turned (t' := s5.toks) (fun b o hb e => eb b o hb e) f0 f1 f3 f4 f5
      have I7 : Inv X pins σ H5 { s5 with heap := h' } := I3.call' (ch := [it]) I6.os I6.base I6.hok I6.bare fun b hb => ⟨(F3 b hb).1.2.2.2.1, (F3 b hb).1.2.1, (F3 b hb).1.2.2.2.2.1, (F3 b hb).1.2.2.2.2.2⟩
      have nC : H5 s3.heap.objs.size = none := by
        have z : H5 ce.locals = none := I6.free
        rw [cL] at z
        exact z
      obtain ⟨m, hn, _⟩ := I6.loc
      have hn : ({ s5 with heap := h' } : Shared).heap.Ns ce.locals m := hn
      rw [cL] at hn
      obtain ⟨c0, c1, c2, c3, c4, c5⟩ := I3.fpOk (b := s3.heap.objs.size) (H' := H5) (Nat.le_refl _) nC
      exact ⟨m, hn, fun h'' sb => ⟨.ref D, H5, I7.turned (t' := s5.toks) (fun b o hb e => (sb.2 b hb).trans e) c0 c1 c3 c4 c5, rfl, done H5 w5⟩⟩
  exact codeAny_compStart_list loop (wpAny_pyIter_listiter T4 loop)⟩
end
end DL

set_option Elab.async false
set_option linter.all false
set_option maxRecDepth 100000
set_option maxHeartbeats 4000000
namespace DL
open PySem PySem.Spec PyProof.Rows L2 L2H HotX
/-! ### a def called within an except suite, with the error that is handled -/
/-- the error's object: of the class at D, nothing else in it, its context None -/
def ErrO (D : Addr) (p : Addr × Obj) : Prop := L2N.Zn (.ref D) none p.2 ∧ ∃ vs, p.2.data = .fields vs
/-- called with the error at hand it gives the text z -/
structure FnW (P : Program) (w : World) (K : PySem.W.Frag) (mg : Str → Option Value) (base : Heap) (k : Nat) (f : Addr) (fd : FuncData) (x : Str) (D : Addr) (z : Str) : Prop where
  run : ∀ (A : Around) (outer : List Env) (s : Shared) (H : Hp) (args : Args) (us : List Value) (Q : VK) (E : XK) (p : Addr × Obj), RoomH k A → Hot1 A p → ErrO D p → PinOk outer H s p → Env0 P w K mg base A outer s H → BindsTo s fd args ([x].zip us) → Vals [.ref p.1] us →
    (∀ H', Same H H' → Q (.str z) H') → codeAny (model P w) A (.call (.ref f) args) (CR (L2N.CX P w) outer P w H s Q E) s
theorem fnW_of {P : Program} {w : World} {K : PySem.W.Frag} {mg : Str → Option Value} {base : Heap} {k : Nat} {f D : Addr} {fd : FuncData} {x qual y : Str} {st : Stmt} {N : List Str} {z : Str} (F : Fun K x qual st f fd) (S : FnScope N [y] (defScope st))
    (hb : ∀ (cdv : Value) (A : Around) (outer : List Env) (s : Shared) (H : Hp) (Q : VK) (E : XK) (p : Addr × Obj), Hot1 A p → ErrO D p → RoomH k (A.deeper (envOfC qual (defScope st) s.heap.objs.size f cdv)) → (∀ H', Same H H' → Q (.str z) H') →
      ∃ t, PSs (cxH (L2N.CX P w) P w K mg base N qual (defScope st) f cdv A outer s H E p) (defBody st) t ∧ t { nx := fun _ H' => Q .non H', rt := Q } (L2.start N [.ref p.1]) H) : FnW P w K mg base (k + 1) f fd y D z := by
  obtain ⟨oc, od, kV, doc, pm, an, cdv, ct, osl, rfl, lk, hcd⟩ := F.ex
  refine ⟨fun A outer s H args us Q E p hr hot ho hpin e0 hbd r hq => ?_⟩
  have KX : K.In s.heap := e0.mod.kin.keeps fun b o e => (e0.bs b o e).1
  have lim : s.heap.NoLimit := e0.mod.nolimit.keeps fun b o e => (e0.bs b o e).1
  have kd : ∀ v ∈ [y].zip us, (defScope st).names.lookup v.1 = some .local ∨ ((defScope st).names.lookup v.1 = some .cell ∧ ((cellsFrom (s.heap.objs.size + 1) (defScope st).names []).lookup v.1).isSome = true) := fun ⟨n, v⟩ hy => by
    rcases S.par n (List.of_mem_zip hy).1 with q | q
    · exact .inl q
    · exact .inr ⟨q, PySem.W.cellsFrom_some _ _ _ (.inl q)⟩
  refine codeAny_call_function hr.depth (KX _ _ lk) rfl S.co S.gen rfl (PySem.W.codeRec_of KX hcd) (hbd _ _ _ _ ?_)
  refine wpAny_newFunctionEnv_cells S.kind kd fun env he s1 xx => ?_
  subst he
  refine ⟨lim.keeps xx.toInCall.keep, codeAny_func ?_⟩
  obtain ⟨t, ht, hqq⟩ := hb cdv A outer s H Q E p hot ho (hr.deeper _) hq
  have I : Inv (cxH (L2N.CX P w) P w K mg base N qual (defScope st) f cdv A outer s H E p) [] (L2.start N [.ref p.1]) H s1 := inv_startH S hpin e0 rfl r xx
  refine wpAny_mono (ht.run [] s1 (L2.start N [.ref p.1]) H _ I hqq) (fun fl s' hs => ?_) fun e s' hs => hs
  have fin : ∀ {σ' : L2.St} {H' : Hp} {v : V} {u : Value}, Inv (cxH (L2N.CX P w) P w K mg base N qual (defScope st) f cdv A outer s H E p) [] σ' H' s' → RelV v u → Q v H' → CE outer P w H s Q u s' := fun {σ' H' v u} J rv q => ⟨v, H', J.os, J.bare, J.base, J.hok, rv, q⟩
  cases fl with
  | ret u =>
    obtain ⟨v, σ', H', J, rv, q⟩ := hs
    exact fin J rv q
  | next =>
    obtain ⟨σ', H', J, q⟩ := hs
    exact fin (v := V.non) (u := Value.none) J rfl q
  | brk => exact (let ⟨_, _, _, q⟩ := hs; q : False).elim
  | cont => exact (let ⟨_, _, _, q⟩ := hs; q : False).elim

/-- isinstance(e, c), e the error at hand -/
theorem call_isP {X : Cx} {D : Addr} {p : Addr × Obj} (C : ExcC X.K D) (ho : ErrO D p) (hp : p ∈ X.pn) : CallR X (.builtin "isinstance") (rIsE X.K D p.1) := by
  intro pins s σ H xs us Q I r h
  obtain ⟨c, cv, b, rfl, hcv, e, q⟩ := h
  obtain ⟨u1, u2, rfl, r1, r2⟩ := vals2 r
  cases r1
  have ec := hcv _ r2
  subst ec
  obtain ⟨hget, _⟩ := I.pin p (List.mem_append_left _ hp)
  obtain ⟨hz, vs, hv⟩ := ho
  have hz := hz.zc
  have J : PySem.W.InstAt s.heap p.1 p.2 D none := by
    obtain ⟨a, oc, od, oda, osl⟩ := p
    obtain ⟨h1, h2⟩ := hz
    dsimp only at h1 h2 hv hget
    subst h1 h2 hv
    exact ⟨hget, rfl, rfl, trivial⟩
  exact PySem.W.kia_one (PySem.W.handS_kitx_exc C.hg C.hk C.hs C.hd C.ha C.hn C.ht C.hm) I.kIn J e (fun z => nomatch z) fun tk => ⟨.bl b, H, I.kept (t' := tk) fun _ _ z => z, rfl, q⟩

/-! ### the word of an error that is of one kind alone -/
abbrev rLenL (K : PySem.W.Frag) : List V → Hp → VK → Prop := fun xs H Q => ∃ p ys, xs = [.ref p] ∧ (SqL K H p ys ∨ SqT K H p ys) ∧ Q (.int ys.length) H
def tWord (K : PySem.W.Frag) (D a C1 C2 C3 C4 C5 : Addr) : TS :=
  tSeq (tAsg (tLst (tCons (tCB (rIsE K D a) (tCons (tVar 0) (tCons (tC (.ref C1)) tNil))) (tCons (tCB (rIsE K D a) (tCons (tVar 0) (tCons (tC (.ref C2)) tNil))) (tCons (tCB (rIsE K D a) (tCons (tVar 0) (tCons (tC (.ref C3)) tNil)))
    (tCons (tCB (rIsE K D a) (tCons (tVar 0) (tCons (tC (.ref C4)) tNil))) (tCons (tCB (rIsE K D a) (tCons (tVar 0) (tCons (tC (.ref C5)) tNil))) tNil)))))) (gName 1))
  (tSeq (tIfS (tTest (tOp rNe (tCB (rLenL K) (tCons (tLcHot K (tVar 1) (gName 2) (tB (tVar 2)) (tVar 2) [2]) tNil)) (tC (.int 1)))) (tRet (tC (.str "many"))) tNext)
  (tRet (tOp (rIxL K) (tLst (tCons (tC (.str "range")) (tCons (tC (.str "form")) (tCons (tC (.str "none")) (tCons (tC (.str "refused")) (tCons (tC (.str "much")) tNil)))))) (tBM K "list" (rIndex K) (tVar 1) (tCons (tC (.bl true)) tNil)))))
theorem same_new {H : Hp} {p : Addr} {o : HO} (h : H p = none) : Same H (upd H p o) := fun b x e => by
  rw [upd_ne (ne_of_none e h)]
  exact e
def words5 : List Str := ["range", "form", "none", "refused", "much"]
theorem word_reads {K : PySem.W.Frag} {D a C1 C2 C3 C4 C5 : Addr} {b1 b2 b3 b4 b5 : Bool} {j : Nat} {z : Str} {Q : VK} {H : Hp} (k1 : PySem.W.kitOne K (.ref D) (.ref C1) = some b1) (k2 : PySem.W.kitOne K (.ref D) (.ref C2) = some b2) (k3 : PySem.W.kitOne K (.ref D) (.ref C3) = some b3)
    (k4 : PySem.W.kitOne K (.ref D) (.ref C4) = some b4) (k5 : PySem.W.kitOne K (.ref D) (.ref C5) = some b5) (one : ([b1, b2, b3, b4, b5].filter id).length = 1) (hj : [b1, b2, b3, b4, b5][j]? = some true) (hm : ∀ m b, m < j → [b1, b2, b3, b4, b5][m]? = some b → b = false) (hz : words5[j]? = some z)
    (hq : ∀ H', Same H H' → Q (.str z) H') {D0 : Ends} (hD : D0.rt = Q) : tWord K D a C1 C2 C3 C4 C5 D0 [some (.ref a), none, none] H := by
  have cls : ∀ C : Addr, ∀ u, RelV (.ref C) u → u = .ref C := fun C u h => h
  refine ⟨_, rfl, .ref C1, .ref C1, b1, rfl, cls C1, k1, _, rfl, .ref C2, .ref C2, b2, rfl, cls C2, k2, _, rfl, .ref C3, .ref C3, b3, rfl, cls C3, k3, _, rfl, .ref C4, .ref C4, b4, rfl, cls C4, k4, _, rfl, .ref C5, .ref C5, b5, rfl, cls C5, k5, by show 5 ≤ sizeLine; decide, fun l hl => ?_⟩
  have hL : upd H l (.lst ([b1, b2, b3, b4, b5].map V.bl)) l = some (.lst ([b1, b2, b3, b4, b5].map V.bl)) := upd_same
  refine ⟨.ref l, rfl, l, [b1, b2, b3, b4, b5].map V.bl, rfl, SqL.of hL, fun d hd => ?_⟩
  have nld : l ≠ d := ne_of_none hL hd
  refine ⟨fun i H' => H' l = some (.lst ([b1, b2, b3, b4, b5].map V.bl)) ∧ H' d = some (.lst ((([b1, b2, b3, b4, b5].take i).filter id).map V.bl)) ∧ Same H H', ⟨by rw [upd_ne nld]; exact hL, upd_same, (same_new hl).trans (same_new hd)⟩, fun i H' h => SqL.of h.1, fun i x H' hx h => ?_, fun H' h => ?_⟩
  · obtain ⟨b, hb, rfl⟩ : ∃ b, [b1, b2, b3, b4, b5][i]? = some b ∧ V.bl b = x := by
      rw [List.getElem?_map] at hx
      cases e : [b1, b2, b3, b4, b5][i]? with
      | none => rw [e] at hx; cases hx
      | some b => rw [e] at hx; cases hx; exact ⟨b, rfl, rfl⟩
    have tk : ([b1, b2, b3, b4, b5].take (i + 1)).filter id = ([b1, b2, b3, b4, b5].take i).filter id ++ (if b then [b] else []) := by
      rw [List.take_add_one, hb, List.filter_append]
      cases b <;> rfl
    refine ⟨rfl, .bl b, rfl, b, rfl, ?_⟩
    cases b with
    | false =>
      refine iteF ⟨h.1, ?_, h.2.2⟩
      rw [tk, if_neg Bool.false_ne_true, List.append_nil]
      exact h.2.1
    | true =>
      refine iteT ⟨.bl true, rfl, _, h.2.1, ?_, ?_, ?_, ?_⟩
      · refine small1000 (Nat.le_trans ?_ (show 5 ≤ 1000 by decide))
        rw [List.length_map]
        exact Nat.le_trans (List.length_filter_le _ _) (by rw [List.length_take]; exact Nat.min_le_right _ _)
      · rw [upd_ne nld]; exact h.1
      · rw [upd_same, tk, List.map_append]
        rfl
      · intro b' o' e
        rw [upd_ne (ne_of_none e ((same_new (o := .lst ([b1, b2, b3, b4, b5].map V.bl)) hl).free hd))]
        exact h.2.2 b' o' e
  · have e5 : [b1, b2, b3, b4, b5].take ([b1, b2, b3, b4, b5].map V.bl).length = [b1, b2, b3, b4, b5] := rfl
    obtain ⟨h1, h2, h3⟩ := h
    rw [e5] at h2
    refine ⟨d, _, rfl, .inl (SqL.of h2), rfl, _, rfl, ?_⟩
    rw [List.length_map, one]
    refine iteF ?_
    dsimp only [tNext, tRet]
    refine ⟨by show 5 ≤ sizeLine; decide, fun m hm' => ?_⟩
    have s4 : Same H (upd H' m (.lst (words5.map V.str))) := h3.trans (same_new hm')
    have nlm : l ≠ m := ne_of_none h1 hm'
    have L' : SqL K (upd H' m (.lst (words5.map V.str))) l ([b1, b2, b3, b4, b5].map V.bl) := SqL.of (by rw [upd_ne nlm]; exact h1)
    refine ⟨.ref l, rfl, .inl ⟨rfl, _, L'⟩, l, _, .bl true, j, .bl true, rfl, rfl, L', rfl, ?_, ?_, rfl, fun i x hi hx => ?_, m, words5.map V.str, (j : Int), .str z, rfl, rfl, SqL.of upd_same, atI_nat ?_, ?_⟩
    · rfl
    · rw [List.getElem?_map, hj]; rfl
    · rw [List.getElem?_map] at hx
      cases e : [b1, b2, b3, b4, b5][i]? with
      | none => rw [e] at hx; cases hx
      | some b =>
        rw [e] at hx
        cases hx
        rw [hm i b hi e]
        rfl
    · rw [List.getElem?_map, hz]; rfl
    · show D0.rt _ _
      rw [hD]
      exact hq _ s4

/-! ### try: .. except K as e: return word(e) -/
section
variable {X : Cx} {a : Addr} {oe : Obj} {cls : Value} {d : Option Addr} {pn : List (Addr × Obj)} {wd : Addr → Option Str} {i k : Nat} {f : Addr} {fd : FuncData} {x n y : Str} {q p1 pos : Pos}
/-- what the suite asks -/
def tsWord (wd : Addr → Option Str) (i : Nat) (a : Addr) (cls : Value) (d : Option Addr) : TE := fun σ H Q => ∃ (D : Addr) (z : Str), cls = .ref D ∧ d = none ∧ wd D = some z ∧ σ[i]? = some (some (.ref a)) ∧ ∀ H', Same H H' → Q (.str z) H'
theorem pe_word (hz : L2N.Zn cls d oe) (hf : ∃ vs, oe.data = .fields vs) (hW : ∀ D z, wd D = some z → FnW X.prog X.w X.K X.mg X.base k f fd y D z) (hr : Room k X.A) (hg : Gl X x) (hm : X.mg x = some (.ref f)) (hk : PySem.W.keepIn X.K (.ref f) = true) (hb : Binds X.K fd [y] [])
    (hi : X.N[i]? = some n) (hv : Vis X.env.scope n) (hd1 : (n == ("__debug__" : Str)) = false := by decide) (hd2 : (n == ("__classdict__" : Str)) = false := by decide) (hdb : (x == ("__debug__" : Str)) = false := by decide)
    (he : starEach [.Name n p1] X.env = (false, eval (.Name n p1) X.env) :: starEach [] X.env := by rfl) (hpl : (backTo pos (starEach [] X.env)).any (·.1) = false := by rfl) :
    PE (X.suite a ((a, oe) :: pn)) (.Call (.Name x q) [.Name n p1] [] pos) (tsWord wd i a cls d) := ⟨fun pins s σ H Q I h => by
  obtain ⟨D, z, rfl, rfl, hwd, hs, hq⟩ := h
  have F := hW D z hwd
  have hV : PE (X.suite a ((a, oe) :: pn)) (.Name n p1) (tVar i) := pe_var hi hv hd1 hd2
  have hA : PA (X.suite a ((a, oe) :: pn)) [.Name n p1] (tCons (tVar i) tNil) := pa_cons hV pa_nil he
  refine wpAny_Call_Name_kw (ld_glob I hg hm ?_ hdb)
  refine PySem.W.callWith_K (h₀ := X.base) I.ok.mod.kin hk (thn (hA.run pos pins s σ H (fun vs G => vs = [.ref a] ∧ H = G) I ⟨_, hs, rfl, rfl⟩) fun us s1 ⟨vs, G, J, r, ev, eG⟩ => ?_) he hpl
  subst ev
  subst eG
  refine ⟨J.kIn, ?_⟩
  obtain ⟨u, rfl, ru⟩ := vals1 r
  have b := hb s1 [u] J.kIn rfl
  have hot : Hot1 (X.suite a ((a, oe) :: pn)).A (a, oe) := by
    obtain ⟨vs, hvs⟩ := hf
    exact ⟨rfl, vs, hvs, hz.2.2 vs hvs⟩
  have P1 := J.pin (a, oe) (List.mem_append_left _ List.mem_cons_self)
  have hpin : PinOk X.stack H s1 (a, oe) := ⟨P1.1, P1.2.1, fun hm => (List.mem_cons.mp (J.stkSub a hm)).elim P1.2.2.1 P1.2.2.2.1, P1.2.2.2.2⟩
  refine wpAny_call (codeAny_mono (F.run _ X.stack s1 H ⟨[u], []⟩ [u] Q (fun _ _ _ => False) (a, oe) (roomH_of (A := X.A) hr |> fun z => ⟨z.dp, z.un⟩) hot ⟨hz, hf⟩ hpin J.env0 b r hq) fun rr s' hres => ?_)
  cases rr with
  | error e =>
    obtain ⟨_, _, _, _, _, _, _, _, _, _, _, _, zz⟩ := hres
    exact zz.elim
  | ok fl =>
    cases fl with
    | ret u => exact J.after hres
    | next => exact False.elim hres
    | brk => exact False.elim hres
    | cont => exact False.elim hres⟩
def sTryW (wd : Addr → Option Str) (i : Nat) (tb : ST) : ST := fun e ρ => tb { e with xc := fun c ρ' => i < ρ'.length ∧ some! (wd c) fun z => e.rt (.d (.str z)) ρ' } ρ
theorem ds_tryW {p : Option Addr} {W : WX} {xk : Str} {CK : Addr} {body : List Stmt} {tb : ST} {np rp pos' tpos : Pos} (hs : X.stack = X.env :: X.outer) (hf : X.env.frame = some X.env.locals) (hN : X.N.Nodup) (hi : X.N[i]? = some n) (hln : X.env.kindOf n = some .local) (hc : Names X xk (.ref CK)) (tk : L2N.Takes X W)
    (hb : ∀ (W : WX) (pn : List (Addr × Obj)) (xe : Value → Shared → Prop), L2N.Takes (X.tr pn xe) W → PassesOwn (model X.prog X.w) X.A X.env xe → DSs (X.tr pn xe) p W body tb)
    (hex : ∀ D z, wd D = some z → PySem.W.exmOne X.K (.ref D) (.ref CK) = some true) (hW : ∀ D z, wd D = some z → FnW X.prog X.w X.K X.mg X.base k f fd y D z) (hr : Room k X.A) (hg : Gl X x) (hm : X.mg x = some (.ref f)) (hk : PySem.W.keepIn X.K (.ref f) = true) (hbd : Binds X.K fd [y] [])
    (hd1 : (n == ("__debug__" : Str)) = false := by decide) (hd2 : (n == ("__classdict__" : Str)) = false := by decide) (hdb : (x == ("__debug__" : Str)) = false := by decide)
    (he : starEach [.Name n p1] X.env = (false, eval (.Name n p1) X.env) :: starEach [] X.env := by rfl) (hpl : (backTo pos (starEach [] X.env)).any (·.1) = false := by rfl) :
    DS X p W (.Try body [.ExceptHandler (some (.Name xk np)) (some n) [.Return (some (.Call (.Name x q) [.Name n p1] [] pos)) rp] pos'] [] [] tpos) (sTryW wd i tb) :=
  ⟨PS.imp (L2N.ps_try_as (tb := fun W => liftS X.K p W tb) (ts := fun a cls d => tRet (tsWord wd i a cls d)) hs hf hN hi hln hc tk (fun W pn xe t po => (hb W pn xe t po).pss)
    (fun a oe cls d pn hz hfl => pss_one (ps_ret (pe_word (k := k) hz hfl hW hr hg hm hk hbd hi (.inl hln) hd1 hd2 hdb he hpl)))) fun D σ H ⟨M, ρ, e, S, h, l⟩ => by
    refine ⟨M, ρ, _, S, h, ⟨l.nx, l.bk, l.ct, l.rt, fun c M' σ' H' ρ' P' h' => ?_⟩⟩
    obtain ⟨hl, h'⟩ := h'
    obtain ⟨z, ez, h2⟩ := some!_ok h'
    refine ⟨true, hex c z ez, fun _ a ha => ⟨c, z, rfl, rfl, ez, List.getElem?_set_self (by rw [← P'.sim.len]; exact hl), fun H'' sm => ?_⟩, fun z => nomatch z⟩
    have dom : ∀ b, H' b ≠ none → H'' b ≠ none := fun b hb => by
      cases q : H' b with
      | none => exact absurd q hb
      | some o => rw [sm b o q]; exact fun z => nomatch z
    have P2 := P'.sim.post (M1 := M') ⟨fun b o e _ => sm b o e, fun b z => .inl z, fun b z _ => z, dom⟩ fun b z => dom b (P'.sim.mok b z)
    exact l.rt (.str z) M' σ' H'' ρ' _ (P'.trans S P2) (RetOk.dd (.str z)) h2⟩
end
end DL

set_option Elab.async false
set_option linter.all false
set_option maxRecDepth 100000
set_option maxHeartbeats 4000000
namespace DL
open PySem PySem.Spec PyProof.Rows L2
/-! ### a def that may be called by its name -/
def CallD (P : Program) (w : World) (K : PySem.W.Frag) (mg : Str → Option Value) (base : Heap) (k : Nat) (x : Str) (ps : List Str) (sp : PSp) : Prop :=
  ∃ (f : Addr) (fd : FuncData), FnOk P w K mg base (L2N.CX P w) k f fd ps (liftSp K sp) ∧ mg x = some (.ref f) ∧ PySem.W.keepIn K (.ref f) = true ∧ Binds K fd ps []
def CallIO (P : Program) (w : World) (K : PySem.W.Frag) (mg : Str → Option Value) (base : Heap) (k : Nat) (x : Str) (ps : List Str) (sp : PSpIO) : Prop :=
  ∃ (f : Addr) (fd : FuncData), FnOk P w K mg base (L2N.CX P w) k f fd ps (liftIO K sp) ∧ mg x = some (.ref f) ∧ PySem.W.keepIn K (.ref f) = true ∧ Binds K fd ps []
section
variable {P : Program} {w : World} {K : PySem.W.Frag} {mg : Str → Option Value} {base : Heap} {k j : Nat} {x : Str} {ps : List Str}
theorem CallD.mono {sp : PSp} (h : CallD P w K mg base k x ps sp) (e : k ≤ j) : CallD P w K mg base j x ps sp := by
  obtain ⟨f, fd, a, b, c, d⟩ := h
  exact ⟨f, fd, a.mono e, b, c, d⟩
theorem CallIO.mono {sp : PSpIO} (h : CallIO P w K mg base k x ps sp) (e : k ≤ j) : CallIO P w K mg base j x ps sp := by
  obtain ⟨f, fd, a, b, c, d⟩ := h
  exact ⟨f, fd, a.mono e, b, c, d⟩
/-- nothing is asked of it -/
theorem CallD.bot {f : Addr} {fd : FuncData} (hm : mg x = some (.ref f)) (hk : PySem.W.keepIn K (.ref f) = true) (hb : Binds K fd ps []) : CallD P w K mg base k x ps (fun _ _ _ => False) :=
  ⟨f, fd, ⟨fun vs H Q E ⟨M, ds, q, x, _, _, z, _⟩ => z.elim, fun A outer s H args us vs Q E hr e0 b r ⟨M, ds, q, x, _, _, z, _⟩ => z.elim⟩, hm, hk, hb⟩
end
section
variable {X : Cx} {p : Option Addr} {W : WX} {k : Nat} {ps : List Str} {x : Str} {pp pos : Pos} {e a b : Expr} {es : List Expr} {t : AT} {ta tb : ET}
theorem de_c {sp : PSp} (F : CallD X.prog X.w X.K X.mg X.base k x ps sp) (tk : L2N.Takes X W) (hr : Room k X.A) (ha : DA X p W (e :: es) t) (hg : Gl X x := by rfl) (hdb : (x == ("__debug__" : Str)) = false := by decide) (he : starEach (e :: es) X.env = (false, eval e X.env) :: starEach es X.env := by rfl)
    (hpl : (backTo pos (starEach es X.env)).any (·.1) = false := by rfl) : DE X p W (.Call (.Name x pp) (e :: es) [] pos) (tCall' sp t) := by
  obtain ⟨f, fd, F, hm, hk, hb⟩ := F
  exact de_call F tk hr hg hm hk hb ha hdb he hpl
theorem de_cIO {sp : PSpIO} (F : CallIO X.prog X.w X.K X.mg X.base k x ps sp) (tk : L2N.Takes X W) (hr : Room k X.A) (ha : DA X p W (e :: es) t) (hg : Gl X x := by rfl) (hdb : (x == ("__debug__" : Str)) = false := by decide) (he : starEach (e :: es) X.env = (false, eval e X.env) :: starEach es X.env := by rfl)
    (hpl : (backTo pos (starEach es X.env)).any (·.1) = false := by rfl) : DE X p W (.Call (.Name x pp) (e :: es) [] pos) (tCallIO sp t) := by
  obtain ⟨f, fd, F, hm, hk, hb⟩ := F
  exact de_callIO F tk hr hg hm hk hb ha hdb he hpl
/-! ### divmod -/
def fDivmod : List D → (RV → Prop) → Prop := fun ds q => match ds with
  | [.int i, .int j] => CDivP i j ∧ q (.d (.tup [.int (i / j), .int (i % j)]))
  | _ => False
theorem divmod_ok {K : PySem.W.Frag} : RCD K (fun xs H Q => ∃ i j, xs = [.int i, .int j] ∧ CDivP i j ∧ ∀ p, H p = none → Q (.ref p) (upd H p (.tup [.int (i / j), .int (i % j)]))) fDivmod := by
  intro M H vs ds Q q mok r h k
  unfold fDivmod at h
  split at h
  next i j =>
    obtain ⟨v, u, rfl, r1, r2⟩ := r.two
    rw [r1.int, r2.int]
    exact ⟨i, j, rfl, h.1, fun p hp => k _ M _ _ (ResOk.tup mok hp (.cons (.int _) (.cons (.int _) .nil))) h.2⟩
  next => exact h.elim
theorem de_divmod {pos' : Pos} (hm : X.mg "divmod" = none) (ha : DE X p W a ta) (hb : DE X p W b tb) (hg : Gl X "divmod" := by rfl) (he : starEach [a, b] X.env = (false, eval a X.env) :: starEach [b] X.env := by rfl) (he2 : starEach [b] X.env = (false, eval b X.env) :: starEach [] X.env := by rfl) (hpl : (backTo pos (starEach [b] X.env)).any (·.1) = false := by rfl) :
    DE X p W (.Call (.Name "divmod" pos') [a, b] [] pos) (tC' fDivmod (aCons ta (aCons tb aNil))) := de_callB call_divmodW divmod_ok hg hm (by decide +kernel) (da_cons ha (da_cons hb da_nil he2) he) (by decide) (by decide) he hpl
end
/-- the word of an error, in the suite of a try -/
structure WordOk (P : Program) (w : World) (K : PySem.W.Frag) (mg : Str → Option Value) (base : Heap) (k : Nat) (x : Str) (CK f : Addr) (fd : FuncData) (wd : Addr → Option Str) : Prop where
  ex : ∀ D z, wd D = some z → PySem.W.exmOne K (.ref D) (.ref CK) = some true
  fn : ∀ D z, wd D = some z → FnW P w K mg base k f fd "e" D z
  mg : mg x = some (.ref f)
  kp : PySem.W.keepIn K (.ref f) = true
  bd : Binds K fd ["e"] []
section
variable {X : Cx} {p : Option Addr} {W : WX}
theorem de_lc' {elt tg iter : Expr} {ifs : List Expr} {scope : Scope} {own : List (Str × Nat)} {pos : Pos} {ti : IT} {g : GT} {tt : BT} {te : ET} {sl vs : List Nat} (hc : X.calm = true) (hN : X.N.Nodup) (hi : DI X p W tg iter ti) (ok : BlkOk X.N X.env.scope scope own)
    (hg : ∀ (s : Shared) (H : Hp) (C : Addr) (cl : List (Str × Addr)) (fp : List Addr), DG (X.blk s H scope (compEnvC scope cl C X.env) fp) p tg sl g) (ht : ∀ (s : Shared) (H : Hp) (C : Addr) (cl : List (Str × Addr)) (fp : List Addr), DTs (X.blk s H scope (compEnvC scope cl C X.env) fp) p wNo ifs tt)
    (he : ∀ (s : Shared) (H : Hp) (C : Addr) (cl : List (Str × Addr)) (fp : List Addr), DE (X.blk s H scope (compEnvC scope cl C X.env) fp) p wNo elt te) (hsl : (sl.all fun j => vs.contains j) = true) (hv : own.map (·.2) = vs := by rfl) (hs : ∀ x, foldedSetIterable iter X.env x = pure x := by intro _; rfl) :
    DE X p W (.ListComp elt [⟨tg, iter, ifs, 0⟩] scope pos) (tLc' ti g tt te vs) := by
  subst hv
  exact de_lc hc hN hi ok hg ht he hsl hs

theorem ds_setLc' {i : Nat} {y : Str} {py : Pos} {elt tg iter : Expr} {ifs : List Expr} {scope : Scope} {own : List (Str × Nat)} {pos spos : Pos} {ti : IT} {g : GT} {tt : BT} {te : ET} {sl vs : List Nat} (hc : X.calm = true) (hN : X.N.Nodup) (hy : X.N[i]? = some y) (hyl : X.env.scope.names.lookup y = some .local)
    (hsw : swapsWith (.ListComp elt [⟨tg, iter, ifs, 0⟩] scope pos) (some (.Name y py)) spos.line X.env = pure true) (hi : DI X p W tg iter ti) (ok : BlkOk X.N X.env.scope scope own)
    (hg : ∀ (s : Shared) (H : Hp) (C : Addr) (cl : List (Str × Addr)) (fp : List Addr), DG (X.blk s H scope (compEnvC scope cl C X.env) fp) p tg sl g) (ht : ∀ (s : Shared) (H : Hp) (C : Addr) (cl : List (Str × Addr)) (fp : List Addr), DTs (X.blk s H scope (compEnvC scope cl C X.env) fp) p wNo ifs tt)
    (he : ∀ (s : Shared) (H : Hp) (C : Addr) (cl : List (Str × Addr)) (fp : List Addr), DE (X.blk s H scope (compEnvC scope cl C X.env) fp) p wNo elt te) (hsl : (sl.all fun j => vs.contains j) = true) (hv : own.map (·.2) = vs := by rfl) (hs : ∀ x, foldedSetIterable iter X.env x = pure x := by intro _; rfl) :
    DS X p W (.Assign [.Name y py] (.ListComp elt [⟨tg, iter, ifs, 0⟩] scope pos) spos) (sSet i (tLc' ti g tt te vs)) := by
  subst hv
  exact ds_setLc hc hN hy hyl hsw hi ok hg ht he hsl hs
end
/-- the law's head: the script is a list that is read alone -/
theorem script_lift {K : PySem.W.Frag} {sp : PSp} {H : Hp} {a : Addr} {ns : List Int} (h : sp [.fz (ns.map .int)] (fun r => r = .d (.bl true)) fun _ => False) (hO : Only H) (hS : SqL K H a (ns.map V.int)) :
    liftSp K sp [.ref a] H (fun v _ => v = .bl true) fun _ _ _ => False := by
  refine ⟨fun _ => False, [.fz (ns.map .int)], _, _, fun a z => z.elim, .cons (.fz ?_ (RepL.of_ints ns)) .nil, h, fun v M' H' r ok e => ?_, fun c M' H' _ _ z => z⟩
  · rcases hS with (hS | ⟨o, hS⟩) | hS
    · rcases hO a with z | ⟨o, xs, z⟩
      · rw [z] at hS; cases hS
      · rw [z] at hS; cases hS
    · exact .inl ⟨o, hS, fun z => z⟩
    · exact .inr hS
  · subst e
    have R : Rep K M' H' v (.bl true) := ok.res
    cases R
    rfl
section
variable {X : Cx}
open L2H HotX
theorem pe_lcHot' {elt tg l : Expr} {ifs : List Expr} {scope : Scope} {own : List (Str × Nat)} {pos : Pos} {tl : TE} {g : TG} {tt : TT} {te : TE} {vs : List Nat} (hot : HotC X) (hN : X.N.Nodup) (hl : PE X l tl) (ok : BlkOk X.N X.env.scope scope own)
    (hg : ∀ (s : Shared) (H : Hp) (C : Addr) (cl : List (Str × Addr)) (fp : List Addr), PG (X.blk s H scope (compEnvC scope cl C X.env) fp) tg g) (ht : ∀ (s : Shared) (H : Hp) (C : Addr) (cl : List (Str × Addr)) (fp : List Addr), PTs (X.blk s H scope (compEnvC scope cl C X.env) fp) ifs tt)
    (he : ∀ (s : Shared) (H : Hp) (C : Addr) (cl : List (Str × Addr)) (fp : List Addr), PE (X.blk s H scope (compEnvC scope cl C X.env) fp) elt te) (hv : own.map (·.2) = vs := by rfl) (hs : ∀ x, foldedSetIterable l X.env x = pure x := by intro _; rfl) :
    PE X (.ListComp elt [⟨tg, l, ifs, 0⟩] scope pos) (tLcHot X.K tl g tt te vs) := by
  subst hv
  exact pe_lcHot hot hN hl ok hg ht he hs
end
section
variable {K : PySem.W.Frag} {D C : Addr} {b : Bool}
theorem cls_of (ic : PySem.W.isClsIn K C = true) (tC : PySem.W.typeIn K (.ref C) = some (.type "type")) (s : PySem.W.subIn K (.ref D) (.ref C) = some b) : PySem.W.kitCls K (.ref D) (.ref C) = some b := by
  have ic : (PySem.W.clsIn K C).isSome = true := ic
  show (if ((PySem.W.clsIn K C).isSome && PySem.W.typeIn K (.ref C) == some (.type "type")) = true then PySem.W.subIn K (.ref D) (.ref C) else none) = _
  rw [ic, tC, s]
  rfl
theorem kit_own (ic : PySem.W.isClsIn K C = true) (tC : PySem.W.typeIn K (.ref C) = some (.type "type")) (s : PySem.W.subIn K (.ref D) (.ref C) = some b) (sD : PySem.W.subIn K (.ref D) (.ref D) = some true) : PySem.W.kitOne K (.ref D) (.ref C) = some b := by
  unfold PySem.W.kitOne
  by_cases e : ((.ref D : Value) == .ref C) = true
  · rw [if_pos e]
    have e2 : D = C := by
      have := beq_iff_eq.mp e
      cases this
      rfl
    subst e2
    exact sD.symm.trans s
  · rw [if_neg e]
    exact cls_of ic tC s
theorem exm_own (ic : PySem.W.isClsIn K C = true) (bC : PySem.W.subIn K (.ref C) (.type "BaseException") = some true) (tC : PySem.W.typeIn K (.ref C) = some (.type "type")) (s : PySem.W.subIn K (.ref D) (.ref C) = some b) : PySem.W.exmOne K (.ref D) (.ref C) = some b := by
  unfold PySem.W.exmOne
  rw [bC]
  exact cls_of ic tC s
end
end DL

set_option Elab.async false
set_option linter.all false
set_option maxRecDepth 100000
set_option maxHeartbeats 4000000
namespace DL
open PySem PySem.Spec PyProof.Rows L2
/-! ### the readings, step by step -/
/-- what follows, to be left alone while the step ahead of it is done -/
inductive Tag {α : Type} (a : α) : Type
  | mk
def sm {α : Type} (o : Option α) (q : α → Prop) (_ : Tag q) : Prop := some! o q
def fm1 (f : D → (RV → Prop) → Prop) (o : Option D) (q : RV → Prop) (_ : Tag (f, q)) : Prop := f1 f o q
def fm2 (f : D → D → (RV → Prop) → Prop) (o p : Option D) (q : RV → Prop) (_ : Tag (f, q)) : Prop := f2 f o p q
def br (b : Bool) (p q : Prop) (_ : Tag (p, q)) : Prop := if b = true then p else q
theorem sm_ {α : Type} {o : Option α} {q : α → Prop} : some! o q = sm o q .mk := rfl
theorem fm1_ {f : D → (RV → Prop) → Prop} {o : Option D} {q : RV → Prop} : f1 f o q = fm1 f o q .mk := rfl
theorem fm2_ {f : D → D → (RV → Prop) → Prop} {o p : Option D} {q : RV → Prop} : f2 f o p q = fm2 f o p q .mk := rfl
theorem br_ {b : Bool} {p q : Prop} : (if b = true then p else q) = br b p q .mk := rfl
theorem sm_some {α : Type} {a : α} {q : α → Prop} {t} : sm (some a) q t = q a := rfl
theorem fm1_some {f : D → (RV → Prop) → Prop} {a : D} {q : RV → Prop} {t} : fm1 f (some a) q t = f a q := rfl
theorem fm2_some {f : D → D → (RV → Prop) → Prop} {a b : D} {q : RV → Prop} {t} : fm2 f (some a) (some b) q t = f a b q := rfl
theorem br_true {p q : Prop} {t} : br true p q t = p := rfl
theorem br_false {p q : Prop} {t} : br false p q t = q := rfl
theorem br_not {b : Bool} {p q : Prop} {t} : br (!b) p q t = br b q p .mk := by cases b <;> rfl
theorem br_dec {c : Prop} [Decidable c] {p q : Prop} {t} : br (decide c) p q t = if c then p else q := by
  unfold br
  by_cases h : c
  · rw [if_pos h, if_pos (decide_eq_true h)]
  · rw [if_neg h, if_neg (by rw [decide_eq_false h]; decide)]
theorem br_any {b : Bool} {p q : Prop} {t} : br b p q t = if b = true then p else q := rfl
section
variable {ρ : Ev} {q : EK} {x : XQ} {qb : Bool → Ev → Prop} {qa : List RV → Ev → Prop} {e : SE}
theorem sNext_ : sNext e ρ = e.nx ρ := rfl
theorem sSeq_ {t u : ST} : sSeq t u e ρ = t { e with nx := u e } ρ := rfl
theorem sBreak_ : sBreak e ρ = e.bk ρ := rfl
theorem sCont_ : sCont e ρ = e.ct ρ := rfl
theorem sExpr_ {t : ET} : sExpr t e ρ = t ρ (fun _ ρ1 => e.nx ρ1) e.xc := rfl
theorem sRet_ {t : ET} : sRet t e ρ = t ρ (fun r ρ1 => some! (retR ρ1 r) fun z => e.rt z ρ1) e.xc := rfl
theorem sRetN_ : sRetN e ρ = e.rt (.d .non) ρ := rfl
theorem sIf_ {c : BT} {t u : ST} : sIf c t u e ρ = c ρ (fun b ρ1 => if b = true then t e ρ1 else u e ρ1) e.xc := rfl
theorem sSet_ {i : Nat} {t : ET} : sSet i t e ρ = t ρ (fun r ρ1 => some! (store i ρ1 r) e.nx) e.xc := rfl
theorem sAug_ {f : D → D → (RV → Prop) → Prop} {i : Nat} {t : ET} : sAug f i t e ρ = some! (slR i ρ[i]?) fun s => t ρ (fun r ρ1 => f2 f (rd ρ1 s) (rd ρ1 r) fun z => some! (store i ρ1 z) e.nx) e.xc := rfl
theorem sPar_ {i j : Nat} {ta tb : ET} : sPar i j ta tb e ρ = ta ρ (fun r ρ1 => tb ρ1 (fun s ρ2 => some! (ripe ρ2 s) fun z => some! (store i z.2 r) fun ρ3 => some! (store j ρ3 z.1) e.nx) e.xc) e.xc := rfl
theorem sAsg_ {t : ET} {g : GT} : sAsg t g e ρ = t ρ (fun r ρ1 => some! (settle ρ1 r) fun z => g z.1 z.2 e.nx) e.xc := rfl
theorem sRaise_ {C : Addr} : sRaise C e ρ = e.xc C ρ := rfl
theorem sTryW_ {wd : Addr → Option Str} {i : Nat} {tb : ST} : sTryW wd i tb e ρ = tb { e with xc := fun c ρ' => i < ρ'.length ∧ some! (wd c) fun z => e.rt (.d (.str z)) ρ' } ρ := rfl
theorem tK_ {v : D} : tK v ρ q x = q (.d v) ρ := rfl
theorem tV_ {i : Nat} : tV i ρ q x = some! (slR i ρ[i]?) fun r => q r ρ := rfl
theorem t2_ {f : D → D → (RV → Prop) → Prop} {ta tb : ET} : t2 f ta tb ρ q x = ta ρ (fun r ρ1 => tb ρ1 (fun s ρ2 => f2 f (rd ρ2 r) (rd ρ2 s) fun z => q z ρ2) x) x := rfl
theorem t1_ {f : D → (RV → Prop) → Prop} {ta : ET} : t1 f ta ρ q x = ta ρ (fun r ρ1 => f1 f (rd ρ1 r) fun z => q z ρ1) x := rfl
theorem tT_ {t : ET} : tT t ρ qb x = t ρ (fun r ρ1 => some! (blR r) fun b => qb b ρ1) x := rfl
theorem tTr_ {t : ET} : tTr t ρ qb x = t ρ (fun r ρ1 => some! (rd ρ1 r) fun d => truD d fun b => qb b ρ1) x := by
  unfold tTr
  congr 1
  funext r ρ1
  cases rd ρ1 r <;> rfl
theorem tCh_ {f g : D → D → (RV → Prop) → Prop} {ta tb tc : ET} : tCh f g ta tb tc ρ q x = ta ρ (fun r ρ1 => tb ρ1 (fun s ρ2 => f2 f (rd ρ2 r) (rd ρ2 s) fun z => some! (blR z) fun k =>
  if k = true then tc ρ2 (fun u ρ3 => f2 g (rd ρ3 s) (rd ρ3 u) fun z2 => q z2 ρ3) x else q (.d (.bl false)) ρ2) x) x := rfl
theorem bAnd_ {ta tb : BT} : bAnd ta tb ρ qb x = ta ρ (fun k ρ1 => if k = true then tb ρ1 qb x else qb false ρ1) x := rfl
theorem bOr_ {ta tb : BT} : bOr ta tb ρ qb x = ta ρ (fun k ρ1 => if k = true then qb true ρ1 else tb ρ1 qb x) x := rfl
theorem bNot_ {ta : BT} : bNot ta ρ qb x = ta ρ (fun k ρ1 => qb (!k) ρ1) x := rfl
theorem bYes_ : bYes ρ qb x = qb true ρ := rfl
theorem tAnd_ {ta tb : ET} : tAnd' ta tb ρ q x = ta ρ (fun r ρ1 => some! (blR r) fun k => if k = true then tb ρ1 q x else q (.d (.bl false)) ρ1) x := rfl
theorem tOr_ {ta tb : ET} : tOr' ta tb ρ q x = ta ρ (fun r ρ1 => some! (blR r) fun k => if k = true then q (.d (.bl true)) ρ1 else tb ρ1 q x) x := rfl
theorem tNot_ {ta : ET} : tNot' ta ρ q x = ta ρ (fun r ρ1 => some! (blR r) fun k => q (.d (.bl (!k))) ρ1) x := rfl
theorem tIf_ {tc : BT} {ta tb : ET} : tIf' tc ta tb ρ q x = tc ρ (fun k ρ1 => if k = true then ta ρ1 q x else tb ρ1 q x) x := rfl
theorem aNil_ : aNil ρ qa x = qa [] ρ := rfl
theorem aCons_ {ta : ET} {tr : AT} : aCons ta tr ρ qa x = ta ρ (fun r ρ1 => tr ρ1 (fun rs ρ2 => qa (cool r :: rs) ρ2) x) x := rfl
theorem tC_ {f : List D → (RV → Prop) → Prop} {ta : AT} : tC' f ta ρ q x = ta ρ (fun rs ρ1 => some! (rdL ρ1 rs) fun ds => f ds fun z => q z ρ1) x := rfl
theorem tTup_ {ta : AT} : tTup' ta ρ q x = ta ρ (fun rs ρ1 => some! (settleL ρ1 rs) fun z => z.1.length ≤ 1000 ∧ q (.d (.tup z.1)) z.2) x := rfl
theorem tLst_ {ta : AT} : tLst' ta ρ q x = ta ρ (fun rs ρ1 => some! (settleL ρ1 rs) fun z => z.1.length ≤ 1000 ∧ q (.n (.lst z.1)) z.2) x := rfl
theorem tCall_ {sp : PSp} {ta : AT} : tCall' sp ta ρ q x = ta ρ (fun rs ρ1 => some! (settleL ρ1 rs) fun z => sp z.1 (fun r => q r z.2) (fun c => x c z.2)) x := rfl
/-- the first of the arguments: the slot's own thing -/
def ioR : List RV → Option (Nat × List RV)
  | .o i :: rs => some (i, rs)
  | _ => none
theorem ioR_ {i : Nat} {rs : List RV} : ioR (.o i :: rs) = some (i, rs) := rfl
theorem tCallIO_ {sp : PSpIO} {ta : AT} : tCallIO sp ta ρ q x = ta ρ (fun rs ρ1 => some! (ioR rs) fun u => some! (settleL ρ1 u.2) fun z => some! (ownS z.2[u.1]?) fun d => sp d z.1 (fun r y => q r (put u.1 y z.2)) (fun c y => x c (put u.1 y z.2))) x := by
  unfold tCallIO
  congr 1
  funext rs ρ1
  match rs with
  | [] => rfl
  | .d _ :: _ => rfl
  | .n _ :: _ => rfl
  | .o i :: rs' => rfl
theorem tAppend_ {to : ET} {ta : AT} : tAppend to ta ρ q x = to ρ (fun r ρ1 => some! (ownL ρ1 r) fun _ => ta ρ1 (fun rs ρ2 => some! (settleL ρ2 rs) fun z => some! (match z.1 with | [y] => some y | _ => none) fun y => some! (ownL z.2 r) fun a => a.2.length < sizeLine ∧ q (.d .non) (put a.1 (.lst (a.2 ++ [y])) z.2)) x) x := by
  unfold tAppend
  congr 1
  funext r ρ1
  congr 1
  funext _
  congr 1
  funext rs ρ2
  congr 1
  funext z
  obtain ⟨z1, z2⟩ := z
  match z1 with
  | [] => rfl
  | [y] => rfl
  | _ :: _ :: _ => rfl
theorem tPop_ {to : ET} : tPop to ρ q x = to ρ (fun r ρ1 => some! (ownL ρ1 r) fun a => some! a.2[a.2.length - 1]? fun y => q (.d y) (put a.1 (.lst a.2.dropLast) ρ1)) x := rfl
theorem oNone_ {qo : Option Int → Ev → Prop} : oNone ρ qo x = qo none ρ := rfl
theorem oSome_ {t : ET} {qo : Option Int → Ev → Prop} : oSome t ρ qo x = t ρ (fun r ρ1 => some! (intR ρ1 r) fun i => qo (some i) ρ1) x := rfl
theorem tSl_ {te : ET} {tl th : OT} : tSl' te tl th ρ q x = te ρ (fun r ρ1 => tl ρ1 (fun lo ρ2 => th ρ2 (fun hi ρ3 => f1 (fun d k => fSl d lo hi k) (rd ρ3 r) fun z => q z ρ3) x) x) x := rfl
theorem iSeqD_ {te : ET} {qi : List D → Ev → Prop} : iSeqD te ρ qi x = te ρ (fun r ρ1 => some! (settle ρ1 r) fun z => some! (seqS z.1) fun ds => qi ds z.2) x := rfl
def intsR : List RV → Option (List Int)
  | [] => some []
  | .d (.int i) :: rs => (intsR rs).map (i :: ·)
  | _ => none
theorem iR1_ {ta : AT} {qi : List D → Ev → Prop} : iR1 ta ρ qi x = ta ρ (fun rs ρ1 => match rs with
  | [.d (.int j)] => -(2 ^ 62) ≤ j ∧ j < 2 ^ 62 ∧ qi (rngD 0 j.toNat) ρ1
  | _ => False) x := rfl
theorem iR2_ {ta : AT} {qi : List D → Ev → Prop} : iR2 ta ρ qi x = ta ρ (fun rs ρ1 => match rs with
  | [.d (.int i), .d (.int j)] => (-(2 ^ 62) ≤ i ∧ i < 2 ^ 62 ∧ -(2 ^ 62) ≤ j ∧ j < 2 ^ 62) ∧ qi (rngD i (j - i).toNat) ρ1
  | _ => False) x := rfl
theorem iR3_ {ta : AT} {qi : List D → Ev → Prop} : iR3 ta ρ qi x = ta ρ (fun rs ρ1 => match rs with
  | [.d (.int i), .d (.int j), .d (.int c)] => ∃ n, RgC i j c n ∧ qi (rngC i c n) ρ1
  | _ => False) x := rfl
theorem gVar_ {i : Nat} {d : D} {qg : Ev → Prop} : gVar i d ρ qg = qg (ρ.set i (.va d)) := rfl
theorem gTup_ {n : Nat} {gs : GTs} {ds : List D} {qg : Ev → Prop} : gTupD n gs (.tup ds) ρ qg = (ds.length = n ∧ gs ds ρ qg) := rfl
theorem gsNil_ {qg : Ev → Prop} : gsNil [] ρ qg = qg ρ := rfl
theorem gsCons_ {g : GT} {gs : GTs} {d : D} {ds : List D} {qg : Ev → Prop} : gsCons g gs (d :: ds) ρ qg = g d ρ fun ρ' => gs ds ρ' qg := rfl
theorem gSetL_ {to ti : ET} {d : D} {qg : Ev → Prop} : gSetL to ti d ρ qg = to ρ (fun r ρ1 => ti ρ1 (fun s ρ2 => some! (ownL ρ2 r) fun a => some! (intR ρ2 s) fun k => some! (ixN a.2.length k) fun j => qg (put a.1 (.lst (a.2.set j d)) ρ2)) fun _ _ => False) fun _ _ => False := rfl
end
section
variable {d : D} {i j : Int} {n : Nat} {ρ ρ' : Ev} {q : RV → Prop} {xs : List D} {b b' : Bool}
theorem rd_d : rd ρ (.d d) = some d := rfl
theorem rd_n : rd ρ (.n d) = some d := rfl
theorem rd_o : rd ρ (.o n) = rdS ρ[n]? := rfl
theorem rdS_va : rdS (some (.va d)) = some d := rfl
theorem rdS_ow : rdS (some (.ow d)) = some d := rfl
theorem rdS_io : rdS (some (.io d)) = some d := rfl
theorem slR_va : slR n (some (.va d)) = some (.d d) := rfl
theorem slR_ow : slR n (some (.ow d)) = some (.o n) := rfl
theorem slR_io : slR n (some (.io d)) = some (.o n) := rfl
theorem blR_ : blR (.d (.bl b)) = some b := rfl
theorem intR_ : intR ρ (.d (.int i)) = some i := rfl
theorem cool_d : cool (.d d) = .d d := rfl
theorem cool_n' : cool (.n d) = .d d := rfl
theorem cool_o : cool (.o n) = .o n := rfl
theorem rdL_nil : rdL ρ [] = some [] := rfl
theorem rdL_d {rs : List RV} (h : rdL ρ rs = some xs) : rdL ρ (.d d :: rs) = some (d :: xs) := by
  show (match some d, rdL ρ rs with | some x, some xs => some (x :: xs) | _, _ => none) = _
  rw [h]
theorem rdL_c {r : RV} {rs : List RV} : rdL ρ (r :: rs) = match rd ρ r, rdL ρ rs with | some x, some xs => some (x :: xs) | _, _ => none := rfl
theorem settle_d : settle ρ (.d d) = some (d, ρ) := rfl
theorem settle_n : settle ρ (.n d) = some (d, ρ) := rfl
theorem settle_o : settle ρ (.o n) = settleS n ρ ρ[n]? := rfl
theorem settleS_va : settleS n ρ (some (.va d)) = some (d, ρ) := rfl
theorem settleS_ow : settleS n ρ (some (.ow d)) = some (d, ρ.set n (.va d)) := rfl
theorem settleL_nil : settleL ρ [] = some ([], ρ) := rfl
theorem settleL_c {r : RV} {rs : List RV} : settleL ρ (r :: rs) = match settle ρ r with
    | some (x, ρ1) => match settleL ρ1 rs with
      | some (xs, ρ2) => some (x :: xs, ρ2)
      | none => none
    | none => none := rfl
theorem settleL_d {rs : List RV} : settleL ρ (.d d :: rs) = match settleL ρ rs with
      | some (xs, ρ2) => some (d :: xs, ρ2)
      | none => none := rfl
theorem store_d : store n ρ (.d d) = some (ρ.set n (.va d)) := rfl
theorem store_n : store n ρ (.n d) = some (ρ.set n (.ow d)) := rfl
theorem store_o {m : Nat} : store n ρ (.o m) = storeS n m ρ ρ[m]? := rfl
theorem storeS_ow {m : Nat} : storeS n m ρ (some (.ow d)) = some ((ρ.set m (.va d)).set n (.va d)) := rfl
theorem retR_d : retR ρ (.d d) = some (.d d) := rfl
theorem retR_n : retR ρ (.n d) = some (.n d) := rfl
theorem retR_o : retR ρ (.o n) = retS ρ[n]? := rfl
theorem retS_ow : retS (some (.ow d)) = some (.n d) := rfl
theorem ripe_d : ripe ρ (.d d) = some (.d d, ρ) := rfl
theorem ripe_n : ripe ρ (.n d) = some (.n d, ρ) := rfl
theorem ownL_o : ownL ρ (.o n) = match ownS ρ[n]? with | some (.lst xs) => some (n, xs) | _ => none := rfl
theorem ownS_ow : ownS (some (.ow d)) = some d := rfl
theorem ownS_io : ownS (some (.io d)) = some d := rfl
theorem put_ : put n d ρ = putS n d ρ ρ[n]? := rfl
theorem putS_ow {d' : D} : putS n d ρ (some (.ow d')) = ρ.set n (.ow d) := rfl
theorem putS_io {d' : D} : putS n d ρ (some (.io d')) = ρ.set n (.io d) := rfl
theorem seqS_lst : seqS (.lst xs) = some xs := rfl
theorem seqS_tup : seqS (.tup xs) = some xs := rfl
theorem seqS_fz : seqS (.fz xs) = some xs := rfl
theorem ioS_io : ioS (some (.io d)) = some d := rfl
theorem fI_ {C : Int → Int → Prop} {g : Int → Int → D} : fI C g (.int i) (.int j) q = (C i j ∧ q (.d (g i j))) := rfl
theorem fI0_ {g : Int → Int → D} : fI0 g (.int i) (.int j) q = q (.d (g i j)) := rfl
theorem fAdd_i : fAdd (.int i) (.int j) q = q (.d (.int (i + j))) := rfl
theorem fAdd_l {ys : List D} : fAdd (.lst xs) (.lst ys) q = (xs.length + ys.length ≤ sizeLine ∧ q (.n (.lst (xs ++ ys)))) := rfl
theorem fMul_i : fMul (.int i) (.int j) q = (CMulX i j ∧ q (.d (.int (i * j)))) := rfl
theorem fMul_l : fMul (.lst xs) (.int j) q = (-(2 ^ 63) ≤ j ∧ j < 2 ^ 63 ∧ xs.length * j.toNat ≤ sizeLine ∧ q (.n (.lst (List.replicate j.toNat xs).flatten))) := rfl
theorem fIx_l : fIx (.lst xs) (.int i) q = some! (atI xs i) fun x => q (.d x) := rfl
theorem fIx_t : fIx (.tup xs) (.int i) q = some! (atI xs i) fun x => q (.d x) := rfl
theorem fIx_f : fIx (.fz xs) (.int i) q = some! (atI xs i) fun x => q (.d x) := rfl
theorem fNeg_ : fNeg (.int i) q = q (.d (.int (-i))) := rfl
theorem fLen_l : fLen [.lst xs] q = q (.d (.int (xs.length : Int))) := rfl
theorem fLen_t : fLen [.tup xs] q = q (.d (.int (xs.length : Int))) := rfl
theorem fLen_f : fLen [.fz xs] q = q (.d (.int (xs.length : Int))) := rfl
theorem fAbs_ : fAbs [.int i] q = q (.d (.int (if i < 0 then -i else i))) := rfl
theorem fInt1_i : fInt1 [.int i] q = q (.d (.int i)) := rfl
theorem fInt1_b : fInt1 [.bl b] q = q (.d (.int (if b then 1 else 0))) := rfl
theorem fInts2_ {g : Int → Int → Int} : fInts2 g [.int i, .int j] q = q (.d (.int (g i j))) := rfl
theorem fTuple_l : fTuple [.lst xs] q = q (.d (.tup xs)) := rfl
theorem fTuple_t : fTuple [.tup xs] q = q (.d (.tup xs)) := rfl
theorem fList_l : fList [.lst xs] q = q (.n (.lst xs)) := rfl
theorem fList_t : fList [.tup xs] q = q (.n (.lst xs)) := rfl
theorem fList_f : fList [.fz xs] q = q (.n (.lst xs)) := rfl
theorem fLRev_ : fLRev (.lst xs) q = q (.n (.lst xs.reverse)) := rfl
theorem fDivmod_ : fDivmod [.int i, .int j] q = (CDivP i j ∧ q (.d (.tup [.int (i / j), .int (i % j)]))) := rfl
theorem fIsi_ {T : TyN} : fIsi T d q = some! (isD T d) fun b => q (.d (.bl b)) := rfl
theorem fIs_n {k : Bool} : fIs k d .non q = some! (isNon d) fun z => q (.d (.bl (k ^^ z))) := rfl
theorem fEq_i : fEq (.int i) (.int j) q = q (.d (.bl (decide (i = j)))) := rfl
theorem fEq_b : fEq (.bl b) (.bl b') q = q (.d (.bl (decide (b = b')))) := rfl
theorem fNe_i : fNe (.int i) (.int j) q = q (.d (.bl (!decide (i = j)))) := rfl
theorem fNe_b : fNe (.bl b) (.bl b') q = q (.d (.bl (!decide (b = b')))) := rfl
theorem fEq_t {ys : List D} : fEq (.tup xs) (.tup ys) q = (shD (.tup xs) ∧ shD (.tup ys) ∧ q (.d (.bl (eqD (.tup xs) (.tup ys))))) := rfl
theorem fEq_l {ys : List D} : fEq (.lst xs) (.lst ys) q = (shD (.lst xs) ∧ shD (.lst ys) ∧ q (.d (.bl (eqD (.lst xs) (.lst ys))))) := rfl
theorem fNe_l {ys : List D} : fNe (.lst xs) (.lst ys) q = (shD (.lst xs) ∧ shD (.lst ys) ∧ q (.d (.bl (!eqD (.lst xs) (.lst ys))))) := rfl
theorem fNe_t {ys : List D} : fNe (.tup xs) (.tup ys) q = (shD (.tup xs) ∧ shD (.tup ys) ∧ q (.d (.bl (!eqD (.tup xs) (.tup ys))))) := rfl
theorem fEq_s {x y : Str} : fEq (.str x) (.str y) q = (shD (.str x) ∧ shD (.str y) ∧ q (.d (.bl (eqD (.str x) (.str y))))) := rfl
theorem truD_b {qb : Bool → Prop} : truD (.bl b) qb = qb b := rfl
theorem truD_i {qb : Bool → Prop} : truD (.int i) qb = qb (i != 0) := rfl
theorem truD_n {qb : Bool → Prop} : truD .non qb = qb false := rfl
end

theorem atI_at {α : Type} {l : List α} {i : Int} {n : Nat} {x : α} (e : i = (n : Int)) (h : l[n]? = some x) : atI l i = some x := by
  subst e
  have hn : n < l.length := (List.getElem?_eq_some_iff.mp h).1
  unfold atI ixN
  rw [if_pos (Int.natCast_nonneg n), if_pos (Int.ofNat_lt.mpr hn)]
  exact h
theorem atI_0 {α : Type} {a : α} {l : List α} : atI (a :: l) 0 = some a := atI_at (n := 0) rfl rfl
theorem atI_1 {α : Type} {a b : α} {l : List α} : atI (a :: b :: l) 1 = some b := atI_at (n := 1) rfl rfl
theorem atI_2 {α : Type} {a b c : α} {l : List α} : atI (a :: b :: c :: l) 2 = some c := atI_at (n := 2) rfl rfl
theorem atI_3 {α : Type} {a0 a1 a2 a3 : α} {l : List α} : atI (a0 :: a1 :: a2 :: a3 :: l) 3 = some a3 := atI_at (n := 3) rfl rfl
theorem atI_4 {α : Type} {a0 a1 a2 a3 a4 : α} {l : List α} : atI (a0 :: a1 :: a2 :: a3 :: a4 :: l) 4 = some a4 := atI_at (n := 4) rfl rfl
theorem atI_5 {α : Type} {a0 a1 a2 a3 a4 a5 : α} {l : List α} : atI (a0 :: a1 :: a2 :: a3 :: a4 :: a5 :: l) 5 = some a5 := atI_at (n := 5) rfl rfl
theorem atI_6 {α : Type} {a0 a1 a2 a3 a4 a5 a6 : α} {l : List α} : atI (a0 :: a1 :: a2 :: a3 :: a4 :: a5 :: a6 :: l) 6 = some a6 := atI_at (n := 6) rfl rfl
theorem atI_7 {α : Type} {a0 a1 a2 a3 a4 a5 a6 a7 : α} {l : List α} : atI (a0 :: a1 :: a2 :: a3 :: a4 :: a5 :: a6 :: a7 :: l) 7 = some a7 := atI_at (n := 7) rfl rfl
theorem atI_8 {α : Type} {a0 a1 a2 a3 a4 a5 a6 a7 a8 : α} {l : List α} : atI (a0 :: a1 :: a2 :: a3 :: a4 :: a5 :: a6 :: a7 :: a8 :: l) 8 = some a8 := atI_at (n := 8) rfl rfl
theorem atI_9 {α : Type} {a0 a1 a2 a3 a4 a5 a6 a7 a8 a9 : α} {l : List α} : atI (a0 :: a1 :: a2 :: a3 :: a4 :: a5 :: a6 :: a7 :: a8 :: a9 :: l) 9 = some a9 := atI_at (n := 9) rfl rfl
theorem atI_10 {α : Type} {a0 a1 a2 a3 a4 a5 a6 a7 a8 a9 a10 : α} {l : List α} : atI (a0 :: a1 :: a2 :: a3 :: a4 :: a5 :: a6 :: a7 :: a8 :: a9 :: a10 :: l) 10 = some a10 := atI_at (n := 10) rfl rfl
theorem atI_11 {α : Type} {a0 a1 a2 a3 a4 a5 a6 a7 a8 a9 a10 a11 : α} {l : List α} : atI (a0 :: a1 :: a2 :: a3 :: a4 :: a5 :: a6 :: a7 :: a8 :: a9 :: a10 :: a11 :: l) 11 = some a11 := atI_at (n := 11) rfl rfl
theorem atI_neg1 {α : Type} {l : List α} {n : Nat} {x : α} (e : l.length = n + 1) (h : l[n]? = some x) : atI l (-1) = some x := by
  unfold atI ixN
  rw [if_neg (by decide), e, if_pos (by omega)]
  show l[((-1 : Int) + ((n + 1 : Nat) : Int)).toNat]? = _
  rw [show ((-1 : Int) + ((n + 1 : Nat) : Int)).toNat = n by omega]
  exact h
/-- a loop whose things are known -/
def ForG (ds : List D) (g : GT) (tb : ST) (e : SE) (ρ1 : Ev) : Prop := ∃ P : Nat → Ev → Prop, P 0 ρ1 ∧ (∀ i d ρ, ds[i]? = some d → P i ρ → g d ρ fun ρ2 => tb { e with nx := P (i + 1), ct := P (i + 1), bk := e.nx } ρ2) ∧ (∀ ρ, P ds.length ρ → e.nx ρ)
def ForT (ds : List D) (g : GT) (tb : ST) (e : SE) (ρ1 : Ev) (_ : Tag (g, tb, e)) : Prop := ForG ds g tb e ρ1
theorem sFor_ {ti : IT} {g : GT} {tb : ST} {e : SE} {ρ : Ev} : sFor ti g tb e ρ = ti ρ (fun ds ρ1 => ForT ds g tb e ρ1 .mk) e.xc := rfl
def WhileG (c : BT) (tb : ST) (e : SE) (ρ : Ev) (_ : Tag (c, tb, e)) : Prop := sWhile c tb e ρ
theorem sWhile_ {c : BT} {tb : ST} {e : SE} {ρ : Ev} : sWhile c tb e ρ = WhileG c tb e ρ .mk := rfl
/-- a comprehension whose things are known -/
def LcG (ds : List D) (g : GT) (tt : BT) (te : ET) (vs : List Nat) (q : EK) (ρ1 : Ev) : Prop := (vs.all fun v => (ownS ρ1[v]?).isNone) = true ∧ ∃ P : Nat → List D → Ev → Prop, P 0 [] (wipeE ρ1 vs) ∧
  (∀ i d acc ρ2, ds[i]? = some d → P i acc ρ2 → g d ρ2 fun ρ3 => tt ρ3 (fun b ρ4 => if b = true then te ρ4 (fun r ρ5 => some! (settle ρ5 r) fun z => acc.length < sizeLine ∧ P (i + 1) (acc ++ [z.1]) (wipeE z.2 vs)) xNo else P (i + 1) acc (wipeE ρ4 vs)) xNo) ∧
  (∀ acc ρ2, P ds.length acc ρ2 → q (.n (.lst acc)) (unwipe ρ1 ρ2 vs))
def LcT (ds : List D) (g : GT) (tt : BT) (te : ET) (vs : List Nat) (q : EK) (ρ1 : Ev) (_ : Tag (g, tt, te, vs, q)) : Prop := LcG ds g tt te vs q ρ1
theorem tLc_ {ti : IT} {g : GT} {tt : BT} {te : ET} {vs : List Nat} {q : EK} {x : XQ} {ρ : Ev} : tLc' ti g tt te vs ρ q x = ti ρ (fun ds ρ1 => LcT ds g tt te vs q ρ1 .mk) x := rfl
/-- without tests, each element by itself: the slots ahead -/
theorem LcG.map {ds : List D} {g : GT} {te : ET} {vs : List Nat} {q : EK} {ρ : Ev} {f : Nat → D → D} (no : (vs.all fun v => (ownS ρ[v]?).isNone) = true) (hz : ds.length ≤ sizeLine)
    (h : ∀ i d, ds[i]? = some d → g d (wipeE ρ vs) fun ρ3 => te ρ3 (fun r ρ5 => some! (settle ρ5 r) fun z => z.1 = f i d ∧ wipeE z.2 vs = wipeE ρ vs) xNo)
    (hq : q (.n (.lst (ds.mapIdx f))) (unwipe ρ (wipeE ρ vs) vs)) (gm : ∀ d ρ (p r : Ev → Prop), g d ρ p → (∀ ρ', p ρ' → r ρ') → g d ρ r) (tm : ∀ ρ (p r : EK), te ρ p xNo → (∀ v ρ', p v ρ' → r v ρ') → te ρ r xNo) : LcG ds g bYes te vs q ρ := by
  refine ⟨no, fun i acc ρ2 => acc = (ds.mapIdx f).take i ∧ ρ2 = wipeE ρ vs, ⟨rfl, rfl⟩, fun i d acc ρ2 hd ⟨ea, eρ⟩ => ?_, fun acc ρ2 ⟨ea, eρ⟩ => ?_⟩
  · subst eρ
    have hi : i < ds.length := (List.getElem?_eq_some_iff.mp hd).1
    refine gm d _ _ _ (h i d hd) fun ρ3 h3 => ?_
    show te ρ3 _ xNo
    refine tm _ _ _ h3 fun r ρ5 h5 => ?_
    obtain ⟨z, e1, e2, e3⟩ := some!_ok h5
    rw [e1]
    refine ⟨?_, ?_, e3⟩
    · rw [ea, List.length_take, List.length_mapIdx]
      omega
    · rw [ea, e2, List.take_add_one]
      congr 1
      rw [List.getElem?_mapIdx, hd]
      rfl
  · subst eρ
    rw [List.take_of_length_le (by rw [List.length_mapIdx]; exact Nat.le_refl _)] at ea
    rw [ea]
    exact hq
end DL

set_option Elab.async false
set_option linter.all false
set_option maxRecDepth 100000
set_option maxHeartbeats 4000000
namespace DL
open PySem PySem.Spec PyProof.Rows L2
/-! ### sizes of whole numbers -/
def Bt (n : Nat) (i : Int) : Prop := i.natAbs < 2 ^ n
theorem bt_of {n : Nat} {i : Int} {b : Nat} (h : i.natAbs < b) (e : b ≤ 2 ^ n) : Bt n i := Nat.lt_of_lt_of_le h e
theorem bt_lit {i : Int} (h : i.natAbs < 2 ^ 64) : Bt 64 i := h
theorem Bt.mono {a b : Nat} {i : Int} (h : Bt a i) (e : a ≤ b) : Bt b i := Nat.lt_of_lt_of_le h (Nat.pow_le_pow_right (by decide) e)
theorem Bt.mul {a b : Nat} {i j : Int} (h : Bt a i) (k : Bt b j) : Bt (a + b) (i * j) := by
  unfold Bt at *
  rw [Int.natAbs_mul, Nat.pow_add]
  exact Nat.mul_lt_mul'' h k
theorem Bt.add {a b : Nat} {i j : Int} (h : Bt a i) (k : Bt b j) : Bt (a + b + 1) (i + j) := by
  unfold Bt at *
  have e1 : 2 ^ a ≤ 2 ^ (a + b) := Nat.pow_le_pow_right (by decide) (Nat.le_add_right a b)
  have e2 : 2 ^ b ≤ 2 ^ (a + b) := Nat.pow_le_pow_right (by decide) (Nat.le_add_left b a)
  have e3 : (i + j).natAbs ≤ i.natAbs + j.natAbs := Int.natAbs_add_le i j
  rw [Nat.pow_succ]
  omega
theorem Bt.neg {a : Nat} {i : Int} (h : Bt a i) : Bt a (-i) := by
  unfold Bt at *
  rwa [Int.natAbs_neg]
theorem Bt.sub {a b : Nat} {i j : Int} (h : Bt a i) (k : Bt b j) : Bt (a + b + 1) (i - j) := by
  rw [Int.sub_eq_add_neg]
  exact h.add k.neg
theorem Bt.div {a : Nat} {i j : Int} (h : Bt a i) : Bt (a + 1) (i / j) := by
  have e : (i / j).natAbs ≤ i.natAbs + 1 := by
    by_cases hj : j = 0
    · subst hj
      rw [Int.ediv_zero]
      omega
    · have h1 := Int.emod_nonneg i hj
      have h2 := Int.emod_lt i hj
      have h3 := Int.mul_ediv_add_emod i j
      rcases Nat.lt_or_ge (i / j).natAbs (i.natAbs + 2) with h4 | h4
      · omega
      · exfalso
        have h5 : (j * (i / j)).natAbs = j.natAbs * (i / j).natAbs := Int.natAbs_mul _ _
        have h6 : 1 ≤ j.natAbs := by omega
        obtain ⟨w, hw⟩ : ∃ w, j.natAbs = w + 1 := ⟨j.natAbs - 1, by omega⟩
        have h7 : j.natAbs * (i / j).natAbs = w * (i / j).natAbs + (i / j).natAbs := by rw [hw, Nat.add_mul, Nat.one_mul]
        have h8 : w * 2 ≤ w * (i / j).natAbs := Nat.mul_le_mul_left _ (by omega)
        omega
  unfold Bt at *
  have : 1 ≤ 2 ^ a := Nat.one_le_two_pow
  rw [Nat.pow_succ]
  omega
theorem Bt.mod {b : Nat} {i j : Int} (h : 0 < j) (k : Bt b j) : Bt b (i % j) := by
  unfold Bt at *
  have h1 := Int.emod_nonneg i (by omega : j ≠ 0)
  have h2 := Int.emod_lt_of_pos i h
  omega
theorem bt_bits {n : Nat} {i : Int} (h : Builtin.Int.intBits i ≤ n) : Bt n i := by
  unfold Bt
  unfold Builtin.Int.intBits at h
  by_cases e : i = 0
  · subst e
    exact Nat.two_pow_pos n
  · rw [if_neg (by simpa using e)] at h
    exact Nat.lt_of_lt_of_le (Nat.lt_log2_self) (Nat.pow_le_pow_right (by decide) h)
theorem cmulx {a b : Nat} {i j : Int} (h : Bt a i) (k : Bt b j) (e : a + b ≤ 134217728) : CMulX i j := mulx_ok h k e
theorem cdivw {b : Nat} {i j : Int} (h : 0 < j) (k : Bt b j) (e : b ≤ 9000) : CDivW i j := by
  refine ⟨h, ?_⟩
  have h1 : j.natAbs ≠ 0 := by omega
  exact Nat.lt_of_lt_of_le ((Nat.log2_lt h1).mpr k) e
theorem cdivp {a : Nat} {i j : Int} (h : 0 < j) (k : Bt a i) (e : a ≤ 4000) : CDivP i j := by
  refine divp_ok h (Nat.le_trans (PyProof.Rows.intBits_le k) (by omega))
/-- promises by a function -/
inductive Out where
  | r (v : RV) | x (c : Addr)
def OutG (o : Out) (q : RV → Prop) (x : Addr → Prop) : Prop := match o with
  | .r v => q v
  | .x c => x c
theorem outG_r {v : RV} {q : RV → Prop} {x : Addr → Prop} : OutG (.r v) q x = q v := rfl
theorem outG_x {c : Addr} {q : RV → Prop} {x : Addr → Prop} : OutG (.x c) q x = x c := rfl
def spF (f : List D → Option Out) : PSp := fun ds q x => some! (f ds) fun o => OutG o q x
theorem spF_ {f : List D → Option Out} {ds : List D} {q : RV → Prop} {x : Addr → Prop} : spF f ds q x = some! (f ds) fun o => OutG o q x := rfl
/-- a block cut behind its first statement -/
theorem sSeq_via {A B : ST} {e : SE} {ρ : Ev} (Q : Ev → Prop) (hA : ∀ N : Ev → Prop, (∀ ρ', Q ρ' → N ρ') → A { e with nx := N } ρ) (hB : ∀ ρ', Q ρ' → B e ρ') : sSeq A B e ρ := hA (B e) hB
theorem rngc_get {lo c : Int} {n i : Nat} {d : D} (h : (rngC lo c n)[i]? = some d) : i < n ∧ d = .int (lo + (i : Int) * c) := by
  unfold rngC at h
  rw [List.getElem?_map] at h
  rcases Nat.lt_or_ge i n with g | g
  · rw [List.getElem?_range g] at h
    exact ⟨g, (Option.some.inj h).symm⟩
  · rw [List.getElem?_eq_none (by rw [List.length_range]; exact g)] at h
    cases h
theorem rngc_len {lo c : Int} {n : Nat} : (rngC lo c n).length = n := by
  unfold rngC
  rw [List.length_map, List.length_range]
def isOp : D → Bool
  | .op _ => true
  | _ => false
end DL

set_option Elab.async false
set_option linter.all false
set_option maxRecDepth 100000
set_option maxHeartbeats 4000000
namespace DL
open PySem PySem.Spec PyProof.Rows L2
/-! ### a, b, c = e1, e2, e3 of plain local names -/
theorem store_waits {K : PySem.W.Frag} {p0 : Option Addr} {M0 M : Addr → Prop} {σ0 σ : L2.St} {H0 H : Hp} {ρ0 ρ ρ' : Ev} {i : Nat} {u : V} {r : RV} (S0 : Sim K p0 M0 σ0 H0 ρ0) (P : Post K p0 M0 σ0 H0 ρ0 M σ H ρ)
    (R : RVok K M σ ρ H0 H u r) (e : store i ρ r = some ρ') :
    ∃ M', Post K p0 M0 σ0 H0 ρ0 M' (σ.set i (some u)) H ρ' ∧ ∀ (H1 : Hp) (v : V) (s : RV), RVok K M σ ρ H1 H v s → (∀ k, s ≠ .o k) → (∀ a, u = .ref a → (∃ x, r = .n x) → H1 a ≠ none) → RVok K M' (σ.set i (some u)) ρ' H1 H v s := by
  have cold : ∀ (R' : RVok K M σ ρ H H u r), ∃ M', Post K p0 M0 σ0 H0 ρ0 M' (σ.set i (some u)) H ρ' ∧ ∀ (H1 : Hp) (v : V) (s : RV), RVok K M σ ρ H1 H v s → (∀ k, s ≠ .o k) → (∀ a, u = .ref a → (∃ x, r = .n x) → H1 a ≠ none) → RVok K M' (σ.set i (some u)) ρ' H1 H v s := fun R' => by
    obtain ⟨M', P'⟩ := store_ok (i := i) P.sim (Post.refl P.sim) R' e
    refine ⟨M', P.trans S0 P', fun H1 v s T nk fr => ?_⟩
    cases s with
    | d x => exact Rep.keep (P'.keep P.sim) T
    | n x =>
      obtain ⟨p, rfl, m, nw, f, o⟩ := T
      exact ⟨p, rfl, P'.step.kp p m nw, fun z => (P'.wr p z).elim nw o.some, f, o.keep (P'.keep P.sim) fun _ z => z⟩
    | o k => exact absurd rfl (nk k)
  cases r with
  | d x => exact cold R
  | o k => exact cold R
  | n x =>
    cases e
    obtain ⟨p, rfl, m, nw, f, o⟩ := R
    obtain ⟨S1, w1⟩ := store_ow (i := i) P.sim m nw o (fun z => S0.p0k p z f) (fun _ _ => trivial)
    refine ⟨M, ⟨S1, P.step, fun a h => ?_⟩, fun H1 v s T nk fr => ?_⟩
    · rcases w1 a h with h | h
      · exact P.wr a h
      · exact .inr (h ▸ f)
    · cases s with
      | d x => exact T
      | n y =>
        obtain ⟨p2, rfl, m2, nw2, f2, o2⟩ := T
        refine ⟨p2, rfl, m2, fun z => ?_, f2, o2⟩
        rcases w1 p2 z with h | h
        · exact nw2 h
        · exact fr p rfl ⟨x, rfl⟩ (h ▸ f2)
      | o k => exact absurd rfl (nk k)
def sPar3 (i j l : Nat) (ta tb tc : ET) : ST := fun e ρ => ta ρ (fun r ρ1 => tb ρ1 (fun s ρ2 => tc ρ2 (fun t ρ3 => some! (ripe ρ3 t) fun y => some! (ripe y.2 s) fun z => some! (store i z.2 r) fun ρ4 => some! (store j ρ4 z.1) fun ρ5 => some! (store l ρ5 y.1) e.nx) e.xc) e.xc) e.xc
theorem ripe_n_of {ρ ρ' : Ev} {r s : RV} (e : ripe ρ r = some (s, ρ')) {x : D} (h : s = .n x) : r = .n x := by
  subst h
  cases r with
  | d y => cases e
  | n y => cases e; rfl
  | o i =>
    unfold ripe at e
    simp only at e
    split at e <;> cases e
section
variable {X : Cx} {p : Option Addr} {W : WX} {a b c : Expr} {ta tb tc : ET} {pos : Pos}
theorem ds_par3 {i j l : Nat} {x y z : Str} {px py pz pt : Pos} {kt k2 pt2} (hc : X.calm = true) (hN : X.N.Nodup) (hi : X.N[i]? = some x) (hj : X.N[j]? = some y) (hl : X.N[l]? = some z) (hij : i ≠ j) (hil : i ≠ l) (hjl : j ≠ l)
    (hx : X.env.scope.names.lookup x = some .local) (hy : X.env.scope.names.lookup y = some .local) (hz : X.env.scope.names.lookup z = some .local) (ha : DE X p W a ta) (hb : DE X p W b tb) (hcc : DE X p W c tc)
    (hw : swappedStores [.Tuple [.Name x px, .Name y py, .Name z pz] kt pt] (.Tuple [a, b, c] k2 pt2) X.env = pure (some [x, y, z]))
    (hsa : starEach [a, b, c] X.env = (false, eval a X.env) :: starEach [b, c] X.env := by rfl) (hsb : starEach [b, c] X.env = (false, eval b X.env) :: starEach [c] X.env := by rfl) (hsc : starEach [c] X.env = (false, eval c X.env) :: starEach [] X.env := by rfl)
    (hs : swapsWithSole [.Tuple [.Name x px, .Name y py, .Name z pz] kt pt] (.Tuple [a, b, c] k2 pt2) pos.line X.env = pure false := by rfl) :
    DS X p W (.Assign [.Tuple [.Name x px, .Name y py, .Name z pz] kt pt] (.Tuple [a, b, c] k2 pt2) pos) (sPar3 i j l ta tb tc) := ⟨PS.imp (ps_par3 hc hN hi hj hl hij hil hjl hx hy hz (pa_cons ha.pe (pa_cons hb.pe (pa_cons hcc.pe pa_nil hsc) hsb) hsa) hw hs) fun D σ H ⟨M, ρ, e, S, h, lk⟩ => by
  refine ⟨M, ρ, _, _, S, h, fun v M1 H1 ρ1 r P1 S1 R1 h1 => ?_, fun c M1 H1 ρ1 P1 h1 => lk.xc c M1 σ H1 ρ1 P1 h1⟩
  refine ⟨M1, ρ1, _, _, P1.sim, h1, fun u M2 H2 ρ2 s P2 S2 R2 h2 => ?_, fun c M2 H2 ρ2 P2 h2 => lk.xc c M2 σ H2 ρ2 (P1.trans S P2) h2⟩
  have P12 := P1.trans S P2
  refine ⟨M2, ρ2, _, _, P2.sim, h2, fun w M3 H3 ρ3 t P3 S3 R3 h3 => ?_, fun c M3 H3 ρ3 P3 h3 => lk.xc c M3 σ H3 ρ3 (P12.trans S P3) h3⟩
  have P13 := P12.trans S P3
  obtain ⟨⟨t', ρ4⟩, e1, h4⟩ := some!_ok h3
  obtain ⟨M4, P4, S4, R4, nk4⟩ := ripe_ok P3.sim R3 e1
  obtain ⟨⟨s', ρ5⟩, e2, h5⟩ := some!_ok h4
  have R2' := (R2.post P2.sim P3 S3).post P3.sim P4 S4
  obtain ⟨M5, P5, S5, R5, nk5⟩ := ripe_ok P4.sim R2' e2
  have R4' : RVok X.K M5 σ ρ5 H2 H3 w t' := R4.post P4.sim P5 S5
  have R1' := (((R1.post P1.sim P2 S2).post P2.sim P3 S3).post P3.sim P4 S4).post P4.sim P5 S5
  have P15 := (P13.trans S P4).trans S P5
  obtain ⟨ρ6, e3, h6⟩ := some!_ok h5
  obtain ⟨M6, P6, W6⟩ := store_waits (i := i) S P15 R1' e3
  have T5 := W6 H1 u s' R5 nk5 (n_there R1)
  have d12 : ∀ a, H1 a ≠ none → H2 a ≠ none := P2.step.dom
  have T4 := W6 H2 w t' R4' nk4 fun a ea hx => d12 a (n_there R1 a ea hx)
  obtain ⟨ρ7, e4, h7⟩ := some!_ok h6
  have T5' : RVok X.K M6 (σ.set i (some v)) ρ6 H H3 u s' := T5.back P1.step.dom
  obtain ⟨M7, P7, W7⟩ := store_waits (i := j) S P6 T5' e4
  have T4' := W7 H2 w t' T4 nk4 fun a ea ⟨x, hx⟩ => n_there R2 a ea ⟨x, ripe_n_of e2 hx⟩
  obtain ⟨ρ8, e5, h8⟩ := some!_ok h7
  have T4'' : RVok X.K M7 ((σ.set i (some v)).set j (some u)) ρ7 H H3 w t' := T4'.back P12.step.dom
  obtain ⟨M8, P8⟩ := store_ok (i := l) S P7 T4'' e5
  exact ⟨v, u, w, rfl, lk.nx M8 _ H3 ρ8 P8 h8⟩⟩
/-! ### a module's name for a built-in function: gcd -/
def fGcd : List D → (RV → Prop) → Prop := fun ds q => match ds with
  | [.int i, .int j] => q (.d (.int ((Nat.gcd i.natAbs j.natAbs : Nat) : Int)))
  | _ => False
theorem gcd_ok {K : PySem.W.Frag} : RCD K rGcd fGcd := by
  intro M H vs ds Q q mok r h k
  unfold fGcd at h
  split at h
  next i j =>
    obtain ⟨v, u, rfl, r1, r2⟩ := r.two
    rw [r1.int, r2.int]
    exact ⟨i, j, rfl, k _ M H _ (ResOk.same mok (.int _)) h⟩
  next => exact h.elim
theorem de_gcd {x : Str} {pos' : Pos} (hm : X.mg x = some (.builtin "math.gcd")) (ha : DE X p W a ta) (hb : DE X p W b tb) (hg : Gl X x := by rfl) (hdb : (x == ("__debug__" : Str)) = false := by decide) (he : starEach [a, b] X.env = (false, eval a X.env) :: starEach [b] X.env := by rfl) (he2 : starEach [b] X.env = (false, eval b X.env) :: starEach [] X.env := by rfl) (hpl : (backTo pos (starEach [b] X.env)).any (·.1) = false := by rfl) :
    DE X p W (.Call (.Name x pos') [a, b] [] pos) (tC' fGcd (aCons ta (aCons tb aNil))) := ⟨PE.imp (pe_callBfun cr_gcd hg hm (da_cons ha (da_cons hb da_nil he2) he).pa hdb he hpl) fun σ H Q h => tC_ok gcd_ok h⟩
/-! ### a global that is a datum for good -/
def GD (K : PySem.W.Frag) (mg : Str → Option Value) (x : Str) (d : D) : Prop := ∃ (u : Value) (v : V), mg x = some u ∧ RelV v u ∧ ∀ M H, Rep K M H v d
theorem de_gd {x : Str} {d : D} (G : GD X.K X.mg x d) (hg : Gl X x := by rfl) (hd : (x == ("__debug__" : Str)) = false := by decide) : DE X p W (.Name x pos) (tK d) := by
  obtain ⟨u, v, hm, r, hr⟩ := G
  exact de_k (pe_glob hg hm r hd) hr
end
/-- a tuple of whole numbers that the top has made -/
theorem gd_ints {K : PySem.W.Frag} {mg : Str → Option Value} {x : Str} {a : Addr} {od : Option Addr} {its : Array Value} {n : Nat} {sl : Array (Option Value)} {ns : List Int} (hm : mg x = some (.ref a)) (l : K.lookup a = some ⟨.type "tuple", od, .seq its n, sl⟩) (h : Vals (ns.map V.int) its.toList) (hz : its.size ≤ 1000) : GD K mg x (.tup (ns.map .int)) :=
  ⟨_, .ref a, hm, rfl, fun M H => .tup (.inr ⟨_, its, n, l, rfl, rfl, sz1000 hz, h⟩) (RepL.of_ints ns)⟩
theorem sPar3_ {i j l : Nat} {ta tb tc : ET} {e : SE} {ρ : Ev} : sPar3 i j l ta tb tc e ρ = ta ρ (fun r ρ1 => tb ρ1 (fun s ρ2 => tc ρ2 (fun t ρ3 => some! (ripe ρ3 t) fun y => some! (ripe y.2 s) fun z => some! (store i z.2 r) fun ρ4 => some! (store j ρ4 z.1) fun ρ5 => some! (store l ρ5 y.1) e.nx) e.xc) e.xc) e.xc := rfl
theorem fGcd_ {i j : Int} {q : RV → Prop} : fGcd [.int i, .int j] q = q (.d (.int ((Nat.gcd i.natAbs j.natAbs : Nat) : Int))) := rfl
theorem ripe_o {ρ : Ev} {i : Nat} : ripe ρ (.o i) = (match settle ρ (.o i) with | some (x, ρ1) => some (.d x, ρ1) | none => none) := rfl
end DL

set_option Elab.async false
set_option linter.all false
set_option maxRecDepth 100000
set_option maxHeartbeats 4000000
namespace DL
open PySem PySem.Spec PyProof.Rows L2
/-! ### in, not in of flat things -/
def flatD : D → Bool
  | .non => true
  | .bl _ => true
  | .int _ => true
  | .str _ => true
  | _ => false
def eqF : D → D → Bool
  | .non, .non => true
  | .bl a, .bl b => a == b
  | .bl a, .int b => (if a then 1 else 0) == b
  | .int a, .bl b => a == (if b then 1 else 0)
  | .int a, .int b => a == b
  | .str a, .str b => a == b
  | _, _ => false
def inF (x : D) (xs : List D) : Bool := xs.any fun y => eqF y x
section
variable {K : PySem.W.Frag} {M : Addr → Prop} {H : Hp}
theorem flat_rep {v : V} {d : D} (r : Rep K M H v d) (h : flatD d = true) : flatV v = true := by
  cases r with
  | op v => cases h
  | tup _ _ => cases h
  | lst _ _ _ => cases h
  | fz _ _ => cases h
  | dic _ _ _ => cases h
  | dit _ _ _ => cases h
  | _ => rfl
theorem flat_repC {v : V} {d : D} (r : RepC K M H v d) (h : flatD d = true) : flatV v = true := by
  rcases r with r | ⟨p, rfl, o⟩
  · exact flat_rep r h
  · cases d with
    | lst _ => cases h
    | dic _ => cases h
    | dit _ => cases h
    | _ => exact o.elim
theorem eqF_rep {v u : V} {d e : D} (r : Rep K M H v d) (s : RepC K M H u e) (h : flatD d = true) (k : flatD e = true) : eqV v u = eqF d e := by
  cases d with
  | non =>
    cases r
    cases e with
    | non => rw [s.non]; rfl
    | bl _ => rw [s.bl]; rfl
    | int _ => rw [s.int]; rfl
    | str _ => rw [s.str]; rfl
    | _ => cases k
  | bl _ =>
    cases r
    cases e with
    | non => rw [s.non]; rfl
    | bl _ => rw [s.bl]; rfl
    | int _ => rw [s.int]; rfl
    | str _ => rw [s.str]; rfl
    | _ => cases k
  | int _ =>
    cases r
    cases e with
    | non => rw [s.non]; rfl
    | bl _ => rw [s.bl]; rfl
    | int _ => rw [s.int]; rfl
    | str _ => rw [s.str]; rfl
    | _ => cases k
  | str _ =>
    cases r
    cases e with
    | non => rw [s.non]; rfl
    | bl _ => rw [s.bl]; rfl
    | int _ => rw [s.int]; rfl
    | str _ => rw [s.str]; rfl
    | _ => cases k
  | _ => cases h
theorem flat_repL : ∀ {vs : List V} {ds : List D}, RepL K M H vs ds → ds.all flatD = true → vs.all flatV = true
  | _, _, .nil, _ => rfl
  | _, _, .cons r t, h => by
    simp only [List.all_cons, Bool.and_eq_true] at h ⊢
    exact ⟨flat_rep r h.1, flat_repL t h.2⟩
theorem inF_rep {u : V} {e : D} (s : RepC K M H u e) (k : flatD e = true) : ∀ {vs : List V} {ds : List D}, RepL K M H vs ds → ds.all flatD = true → inV u vs = inF e ds
  | _, _, .nil, _ => rfl
  | _, _, .cons (v := v) (vs := vs) (d := d) (ds := ds) r t, h => by
    simp only [List.all_cons, Bool.and_eq_true] at h
    show (eqV v u || inV u vs) = (eqF d e || inF e ds)
    rw [eqF_rep r s h.1 k, inF_rep s k t h.2]
end
def fIn (neg : Bool) : D → D → (RV → Prop) → Prop := fun a b q => match b with
  | .lst xs => flatD a = true ∧ xs.all flatD = true ∧ q (.d (.bl (neg ^^ inF a xs)))
  | .tup xs => flatD a = true ∧ xs.all flatD = true ∧ q (.d (.bl (neg ^^ inF a xs)))
  | .fz xs => flatD a = true ∧ xs.all flatD = true ∧ q (.d (.bl (neg ^^ inF a xs)))
  | _ => False
theorem rIn_ok {K : PySem.W.Frag} {neg : Bool} : R2D K (rIn K neg) (fIn neg) := by
  intro M H x y a b Q q mok ra rb h k
  have fin : ∀ (xs : List V) (ds : List D), RepL K M H xs ds → ds.all flatD = true → flatD a = true → q (.d (.bl (neg ^^ inF a ds))) → Q (.bl (if neg then !inV x xs else inV x xs)) H := fun xs ds r hf ha hq => by
    rw [inF_rep ra ha r hf]
    cases neg
    · rw [Bool.false_xor] at hq; exact k _ M H _ (ResOk.same mok (.bl _)) hq
    · rw [Bool.true_xor] at hq; exact k _ M H _ (ResOk.same mok (.bl _)) hq
  cases b with
  | lst ds =>
    obtain ⟨p, xs, e, hx, r⟩ := rb.lst
    exact ⟨p, xs, e, .inl (SqL.of hx), flat_repC ra h.1, flat_repL r h.2.1, fin xs ds r h.2.1 h.1 h.2.2⟩
  | tup ds =>
    obtain ⟨p, xs, e, hx, r⟩ := rb.tup
    exact ⟨p, xs, e, .inr hx.sq, flat_repC ra h.1, flat_repL r h.2.1, fin xs ds r h.2.1 h.1 h.2.2⟩
  | fz ds =>
    obtain ⟨p, xs, e, hx, r⟩ := rb.fz
    exact ⟨p, xs, e, .inl hx.sq, flat_repC ra h.1, flat_repL r h.2.1, fin xs ds r h.2.1 h.1 h.2.2⟩
  | _ => exact h.elim
section
variable {X : Cx} {p : Option Addr} {W : WX} {a b c e : Expr} {ta tb tc te : ET} {pos : Pos}
theorem de_in {k : Nat} (hr : Room k X.A) (ha : DE X p W a ta) (hb : DE X p W b tb) (hm : behindInMarks .In b = false := by rfl) : DE X p W (.Compare a [.In] [b] pos) (t2 (fIn false) ta tb) := de_cmp op_in_seq rIn_ok ha hb hm
theorem de_notin {k : Nat} (hr : Room k X.A) (ha : DE X p W a ta) (hb : DE X p W b tb) (hm : behindInMarks .NotIn b = false := by rfl) : DE X p W (.Compare a [.NotIn] [b] pos) (t2 (fIn true) ta tb) := de_cmp op_notIn_seq rIn_ok ha hb hm
theorem db_in {k : Nat} (hr : Room k X.A) (ha : DE X p W a ta) (hb : DE X p W b tb) (hm : behindInMarks .In b = false := by rfl) : DB X p W (.Compare a [.In] [b] pos) (tT (t2 (fIn false) ta tb)) := db_cmp op_in_seq rIn_ok ha hb hm
theorem db_notin {k : Nat} (hr : Room k X.A) (ha : DE X p W a ta) (hb : DE X p W b tb) (hm : behindInMarks .NotIn b = false := by rfl) : DB X p W (.Compare a [.NotIn] [b] pos) (tT (t2 (fIn true) ta tb)) := db_cmp op_notIn_seq rIn_ok ha hb hm
end
/-! ### dicts whose keys are whole numbers and texts -/
def keyD : D → Option Key
  | .int i => some (.inl i)
  | .str x => some (.inr x)
  | _ => none
theorem keyD_ok {K : PySem.W.Frag} {M : Addr → Prop} {H : Hp} {v : V} {d : D} {k : Key} (r : RepC K M H v d) (h : keyD d = some k) : v = kV k := by
  cases d with
  | int i => cases h; exact r.int
  | str i => cases h; exact r.str
  | _ => cases h
def valD (kds : List (Key × D)) (k : Key) : Option D := (kds.find? fun kv => decide (kv.1 = k)).map (·.2)
def putD (kds : List (Key × D)) (k : Key) (d : D) : List (Key × D) := if kds.any (fun kv => decide (kv.1 = k)) then kds.map fun kv => if kv.1 = k then (kv.1, d) else kv else kds ++ [(k, d)]
section
variable {K : PySem.W.Frag} {M : Addr → Prop} {H : Hp}
theorem RepK.length : ∀ {vs : List (Key × V)} {ds : List (Key × D)}, RepK K M H vs ds → vs.length = ds.length
  | _, _, .nil => rfl
  | _, _, .cons _ t => by rw [List.length_cons, List.length_cons, RepK.length t]
theorem RepK.val {k : Key} : ∀ {vs : List (Key × V)} {ds : List (Key × D)}, RepK K M H vs ds → (valV vs k = none ∧ valD ds k = none) ∨ ∃ v d, valV vs k = some v ∧ valD ds k = some d ∧ Rep K M H v d
  | _, _, .nil => .inl ⟨rfl, rfl⟩
  | _, _, .cons (k := j) (v := v) (vs := vs) (d := d) (ds := ds) r t => by
    by_cases e : j = k
    · refine .inr ⟨v, d, ?_, ?_, r⟩
      · unfold valV; rw [List.find?_cons, show decide ((j, v).1 = k) = true from decide_eq_true e]; rfl
      · unfold valD; rw [List.find?_cons, show decide ((j, d).1 = k) = true from decide_eq_true e]; rfl
    · have e1 : valV ((j, v) :: vs) k = valV vs k := by unfold valV; rw [List.find?_cons, show decide ((j, v).1 = k) = false from decide_eq_false e]
      have e2 : valD ((j, d) :: ds) k = valD ds k := by unfold valD; rw [List.find?_cons, show decide ((j, d).1 = k) = false from decide_eq_false e]
      rw [e1, e2]
      exact RepK.val t
theorem RepK.any {k : Key} : ∀ {vs : List (Key × V)} {ds : List (Key × D)}, RepK K M H vs ds → (vs.any fun kv => decide (kv.1 = k)) = ds.any fun kv => decide (kv.1 = k)
  | _, _, .nil => rfl
  | _, _, .cons (k := j) r t => by rw [List.any_cons, List.any_cons, RepK.any t]
theorem RepK.repl {k : Key} {v : V} {d : D} (r : Rep K M H v d) : ∀ {vs : List (Key × V)} {ds : List (Key × D)}, RepK K M H vs ds → RepK K M H (vs.map fun kv => if kv.1 = k then (kv.1, v) else kv) (ds.map fun kv => if kv.1 = k then (kv.1, d) else kv)
  | _, _, .nil => .nil
  | _, _, .cons (k := j) (v := u) (d := e) s t => by
    rw [List.map_cons, List.map_cons]
    by_cases z : j = k
    · rw [if_pos (show (j, u).1 = k from z), if_pos (show (j, e).1 = k from z)]
      exact .cons r (RepK.repl r t)
    · rw [if_neg (show ¬ (j, u).1 = k from z), if_neg (show ¬ (j, e).1 = k from z)]
      exact .cons s (RepK.repl r t)
theorem RepK.append : ∀ {v w : List (Key × V)} {d e : List (Key × D)}, RepK K M H v d → RepK K M H w e → RepK K M H (v ++ w) (d ++ e)
  | _, _, _, _, .nil, s => s
  | _, _, _, _, .cons r t, s => .cons r (RepK.append t s)
theorem RepK.put {k : Key} {v : V} {d : D} (r : Rep K M H v d) {vs : List (Key × V)} {ds : List (Key × D)} (h : RepK K M H vs ds) : RepK K M H (putK vs k v) (putD ds k d) := by
  unfold putK putD
  rw [h.any]
  split
  · exact h.repl r
  · exact h.append (.cons r .nil)
end
def fInD (neg : Bool) : D → D → (RV → Prop) → Prop := fun a b q => match b with
  | .dic kvs => some! (keyD a) fun k => q (.d (.bl (neg ^^ (valD kvs k).isSome)))
  | _ => False
def rInD (neg : Bool) : R2 := fun y x H Q => ∃ a o, x = .ref a ∧ DGet H a y o ∧ Q (.bl (neg ^^ o.isSome)) H
theorem op_inD {X : Cx} (hu : X.A.units + 1 < cLine) : OpR X (compareOp .In) (rInD false) := by
  intro pins s σ H x y v u Q I rx ry h
  obtain ⟨a, o, rfl, g, q⟩ := h
  cases (show u = Value.ref a from ry)
  exact d_in hu I g rx fun s' I' => ⟨.bl o.isSome, H, I', rfl, by rw [Bool.false_xor] at q; exact q⟩
theorem op_notinD {X : Cx} (hu : X.A.units + 1 < cLine) : OpR X (compareOp .NotIn) (rInD true) := by
  intro pins s σ H x y v u Q I rx ry h
  obtain ⟨a, o, rfl, g, q⟩ := h
  cases (show u = Value.ref a from ry)
  exact d_notIn hu I g rx fun s' I' => ⟨.bl (!o.isSome), H, I', rfl, by rw [Bool.true_xor] at q; exact q⟩
theorem rInD_ok {K : PySem.W.Frag} {neg : Bool} : R2D K (rInD neg) (fInD neg) := by
  intro M H x y a b Q q mok ra rb h k
  cases b with
  | dic ds =>
    obtain ⟨key, e, h⟩ := some!_ok h
    obtain ⟨p, xs, ey, hx, r⟩ := rb.dic
    obtain rfl := keyD_ok ra e
    refine ⟨p, valV xs key, ey, DGet.k hx, ?_⟩
    rcases r.val (k := key) with ⟨e1, e2⟩ | ⟨v, d, e1, e2, _⟩
    · rw [e1]; rw [e2] at h; exact k _ M H _ (ResOk.same mok (.bl _)) h
    · rw [e1]; rw [e2] at h; exact k _ M H _ (ResOk.same mok (.bl _)) h
  | _ => exact h.elim
def fIxD : D → D → (RV → Prop) → Prop := fun b a q => match b with
  | .dic kvs => some! (keyD a) fun k => some! (valD kvs k) fun d => q (.d d)
  | _ => False
section
variable {X : Cx} {p : Option Addr} {W : WX} {a b c e : Expr} {ta tb tc te : ET} {pos : Pos}
theorem de_inD {k : Nat} (hr : Room k X.A) (ha : DE X p W a ta) (hb : DE X p W b tb) (hm : behindInMarks .In b = false := by rfl) : DE X p W (.Compare a [.In] [b] pos) (t2 (fInD false) ta tb) := de_cmp (op_inD (hu_of hr)) rInD_ok ha hb hm
theorem de_notinD {k : Nat} (hr : Room k X.A) (ha : DE X p W a ta) (hb : DE X p W b tb) (hm : behindInMarks .NotIn b = false := by rfl) : DE X p W (.Compare a [.NotIn] [b] pos) (t2 (fInD true) ta tb) := de_cmp (op_notinD (hu_of hr)) rInD_ok ha hb hm
theorem db_inD {k : Nat} (hr : Room k X.A) (ha : DE X p W a ta) (hb : DE X p W b tb) (hm : behindInMarks .In b = false := by rfl) : DB X p W (.Compare a [.In] [b] pos) (tT (t2 (fInD false) ta tb)) := db_cmp (op_inD (hu_of hr)) rInD_ok ha hb hm
theorem db_notinD {k : Nat} (hr : Room k X.A) (ha : DE X p W a ta) (hb : DE X p W b tb) (hm : behindInMarks .NotIn b = false := by rfl) : DB X p W (.Compare a [.NotIn] [b] pos) (tT (t2 (fInD true) ta tb)) := db_cmp (op_notinD (hu_of hr)) rInD_ok ha hb hm
/-- d[k] -/
theorem de_ixD {k : Nat} (hr : Room k X.A) (ha : DE X p W a ta) (hb : DE X p W b tb) (hs : NoSl b := by intro _ _; rfl) : DE X p W (.Subscript a b pos) (t2 fIxD ta tb) :=
  ⟨PE.imp (pe_dget (hu_of hr) ha.pe hb.pe hs) fun σ H Q h => t2_ok (r := fun x y H Q => ∃ a v, x = .ref a ∧ DGet H a y (some v) ∧ Q v H) (fun M H x y a b Q q mok ra rb h k => by
    cases a with
    | dic ds =>
      obtain ⟨key, e, h⟩ := some!_ok h
      obtain ⟨d, e2, h⟩ := some!_ok h
      obtain ⟨p, xs, ey, hx, r⟩ := ra.dic
      obtain rfl := keyD_ok rb e
      rcases r.val (k := key) with ⟨_, e3⟩ | ⟨v, d', e1, e3, rv⟩
      · rw [e3] at e2; cases e2
      · rw [e3] at e2
        cases e2
        exact ⟨p, v, ey, by rw [← e1]; exact DGet.k hx, k _ M H _ (ResOk.same mok rv) h⟩
    | _ => exact h.elim) h⟩
/-- {} -/
def tDNew : ET := fun ρ q _ => q (.n (.dic [])) ρ
theorem de_dnew : DE X p W (.Dict [] [] pos) tDNew := ⟨PE.imp pe_dnewK fun σ H Q ⟨M, ρ, q, xq, S, ht, hq, hx⟩ => fun l hl => by
  obtain ⟨P, R⟩ := (ResOk.dic (K := X.K) (xs := []) (ds := []) S.mok hl .nil).fin S (Post.refl S)
  exact hq _ _ _ ρ _ P (Slots.refl ρ) R ht⟩
end
/-- d[k] = .., d the slot's own dict -/
def ownK (ρ : Ev) : RV → Option (Nat × List (Key × D))
  | .o i => match ownS ρ[i]? with
    | some (.dic xs) => some (i, xs)
    | _ => none
  | _ => none
theorem ownK_ok {ρ : Ev} {r : RV} {i : Nat} {xs : List (Key × D)} (h : ownK ρ r = some (i, xs)) : r = .o i ∧ ownS ρ[i]? = some (.dic xs) := by
  cases r with
  | o j =>
    unfold ownK at h
    simp only at h
    split at h
    · rename_i ys e
      cases h
      exact ⟨rfl, e⟩
    · cases h
  | _ => cases h
def keyR (ρ : Ev) (r : RV) : Option Key := (rd ρ r).bind keyD
def gSetD (to ti : ET) : GT := fun d ρ q => to ρ (fun r ρ1 => ti ρ1 (fun s ρ2 => some! (ownK ρ2 r) fun a => some! (keyR ρ2 s) fun k => a.2.length < sizeLine ∧ q (put a.1 (.dic (putD a.2 k d)) ρ2)) fun _ _ => False) fun _ _ => False
section
variable {X : Cx} {p : Option Addr} {W : WX} {pos : Pos}
theorem dg_setD {k : Nat} (hr : Room k X.A) {o i : Expr} {to ti : ET} (ho : DE X p (fun _ _ _ _ => False) o to) (hi : DE X p (fun _ _ _ _ => False) i ti)
    (ha : ∀ v, assign (.Subscript o i pos) X.env v = (do
      let ov ← holding [v] (eval o X.env)
      let iv ← holding [v, ov] (eval i X.env)
      standAt pos
      holding [v, ov, iv] (setItem ov iv v)
      release [v, ov, iv] []) := by intro _; rfl) : DG X p (.Subscript o i pos) [] (gSetD to ti) :=
  ⟨PG.imp (pg_sub ho.pe hi.pe (set_dict (hu_of hr)) ha) fun v σ H Q ⟨M, ρ, d, q, S, R, h, k⟩ => by
    refine ⟨M, ρ, _, _, S, h, fun vo M1 H1 ρ1 r1 P1 S1 R1 h1 => ?_, fun c M1 H1 ρ1 P1 h1 => h1⟩
    refine ⟨M1, ρ1, _, _, P1.sim, h1, fun vi M2 H2 ρ2 r2 P2 S2 R2 h2 => ?_, fun c M2 H2 ρ2 P2 h2 => h2⟩
    obtain ⟨⟨n, xs⟩, e1, h3⟩ := some!_ok h2
    obtain ⟨rfl, eo⟩ := ownK_ok e1
    obtain ⟨key, e2, hl, h5⟩ := some!_ok h3
    obtain ⟨dk, e3, e4⟩ := Option.bind_eq_some_iff.mp e2
    obtain ⟨a, hs1, m1, ⟨vs0, hv0, r0⟩, w1⟩ := own_at P2.sim eo
    obtain rfl : vo = .ref a := by
      have z := R1.1
      rw [hs1] at z
      cases z
      rfl
    have P12 := P1.trans S P2
    obtain rfl := keyD_ok (rd_ok P2.sim R2 e3) e4
    refine ⟨a, _, rfl, DPut.k hv0 (by rw [r0.length]; exact hl), ?_⟩
    have kk : Keep M2 H2 M2 (upd H2 a (.dK (putK vs0 key v))) := fun b w e n => ⟨by rw [upd_cold m1 n]; exact e, n⟩
    have P4 := mut_ok P2.sim eo hs1 (o := .dK (putK vs0 key v)) (y := .dic (putD xs key d)) ⟨_, upd_same, (r0.keep kk).put ((R.keep (P12.keep S)).keep kk)⟩
    exact k _ _ _ _ (P12.trans S P4) ⟨rfl, fun _ _ => rfl⟩ h5⟩
end
/-! ### list(range(n)) -/
def fLRg : D → (RV → Prop) → Prop := fun d q => match d with
  | .int n => -(2 ^ 62) ≤ n ∧ n ≤ 16777216 ∧ q (.n (.lst (rngD 0 n.toNat)))
  | _ => False
theorem repL_rg {K : PySem.W.Frag} {M : Addr → Prop} {H : Hp} {n : Int} : RepL K M H (rgV 0 n) (rngD 0 n.toNat) := by
  unfold rgV rngD
  rw [Int.sub_zero]
  have : ∀ l : List Nat, RepL K M H (l.map fun i : Nat => V.int (0 + (i : Nat))) (l.map fun i : Nat => D.int (0 + (i : Int))) := fun l => by
    induction l with
    | nil => exact .nil
    | cons a l ih => exact .cons (.int _) ih
  exact this _
section
variable {X : Cx} {p : Option Addr} {W : WX} {a b c e : Expr} {ta tb tc te : ET} {pos pos' : Pos}
theorem de_lrg1 {p1 p2 q1 q2 : Pos} (hc : X.calm = true) (hm : X.mg "list" = none) (hm2 : X.mg "range" = none) (ha : DE X p W a ta) (hg : Gl X "list" := by rfl) (hg2 : Gl X "range" := by rfl)
    (na : starEach [a] X.env = (false, eval a X.env) :: starEach [] X.env := by rfl)
    (nb : starEach [.Call (.Name "range" p2) [a] [] q2] X.env = (false, eval (.Call (.Name "range" p2) [a] [] q2) X.env) :: starEach [] X.env := by rfl) :
    DE X p W (.Call (.Name "list" p1) [.Call (.Name "range" p2) [a] [] q2] [] q1) (t1 fLRg ta) :=
  ⟨PE.imp (pe_listRg hc hg hm (prg_1 hg2 hm2 ha.pe na) nb) fun σ H Q h => t1_ok (r := fun v H Q => ∃ n, v = .int n ∧ RgOk 0 n ∧ ∀ q, H q = none → Q (.ref q) (upd H q (.lst (rgV 0 n)))) (fun M H x d Q q mok ra h k => by
    cases d with
    | int n =>
      obtain ⟨h1, h2, h3⟩ := h
      exact ⟨n, ra.int, ⟨by decide, by decide, h1, by omega, by omega⟩, fun l hl => k _ _ _ _ (ResOk.lst mok hl repL_rg) h3⟩
    | _ => exact h.elim) h⟩
/-! ### xs.index(y) of a list -/
def isLst : Option D → Prop
  | some (.lst _) => True
  | some (.fz _) => True
  | _ => False
def fIndex : D → D → (RV → Prop) → Prop := fun a y q => match a with
  | .lst xs => flatD y = true ∧ xs.all flatD = true ∧ ∃ (j : Nat) (z : D), xs[j]? = some z ∧ eqF z y = true ∧ (∀ (m : Nat) (z' : D), m < j → xs[m]? = some z' → eqF z' y = false) ∧ q (.d (.int (j : Int)))
  | .fz xs => flatD y = true ∧ xs.all flatD = true ∧ ∃ (j : Nat) (z : D), xs[j]? = some z ∧ eqF z y = true ∧ (∀ (m : Nat) (z' : D), m < j → xs[m]? = some z' → eqF z' y = false) ∧ q (.d (.int (j : Int)))
  | _ => False
def tIndex (to te : ET) : ET := fun ρ q x => to ρ (fun r ρ1 => isLst (rd ρ1 r) ∧ te ρ1 (fun s ρ2 => f2 fIndex (rd ρ2 r) (rd ρ2 s) fun z => q z ρ2) x) x
theorem isLst_ty {K : PySem.W.Frag} {M : Addr → Prop} {H : Hp} {v : V} {d : Option D} (h : isLst d) (r : ∀ x, d = some x → RepC K M H v x) : tyV K "list" v H := by
  cases d with
  | none => exact h.elim
  | some d =>
    cases d with
    | lst ds =>
      obtain ⟨a, xs, rfl, hx, _⟩ := (r _ rfl).lst
      exact .inl ⟨rfl, xs, SqL.of hx⟩
    | fz ds =>
      obtain ⟨a, xs, rfl, hx, _⟩ := (r _ rfl).fz
      exact .inl ⟨rfl, xs, hx.sq⟩
    | _ => exact h.elim
theorem index_ok {K : PySem.W.Frag} : R2D K (fun x y H Q => rIndex K x [y] H Q) fIndex := by
  intro M H x y a b Q q mok ra rb h k
  have go : ∀ (p : Addr) (xs : List V) (ds : List D), x = .ref p → SqL K H p xs → RepL K M H xs ds → (flatD b = true ∧ ds.all flatD = true ∧ ∃ (j : Nat) (z : D), ds[j]? = some z ∧ eqF z b = true ∧ (∀ (m : Nat) (z' : D), m < j → ds[m]? = some z' → eqF z' b = false) ∧ q (.d (.int (j : Int)))) → rIndex K x [y] H Q := fun p xs ds ex hs r ⟨fb, fa, j, z, hz, ez, hno, hq⟩ => by
    obtain ⟨u, hu, ru⟩ := r.get hz
    refine ⟨p, xs, y, j, u, ex, rfl, hs, flat_repC rb fb, flat_repL r fa, hu, ?_, fun m z' hm hz' => ?_, k _ M H _ (ResOk.same mok (.int _)) hq⟩
    · rw [eqF_rep ru rb (List.all_eq_true.mp fa z (List.mem_of_getElem? hz)) fb]; exact ez
    · obtain ⟨d', hd', rd'⟩ := r.get' hz'
      rw [eqF_rep rd' rb (List.all_eq_true.mp fa d' (List.mem_of_getElem? hd')) fb]
      exact hno m d' hm hd'
  cases a with
  | lst ds =>
    obtain ⟨p, xs, ex, hx, r⟩ := ra.lst
    exact go p xs ds ex (SqL.of hx) r h
  | fz ds =>
    obtain ⟨p, xs, ex, hx, r⟩ := ra.fz
    exact go p xs ds ex hx.sq r h
  | _ => exact h.elim
theorem de_index {o e : Expr} {to te : ET} {apos cpos : Pos} (ho : DE X p W o to) (ha : DE X p W e te)
    (hbase : attributeBase o "index" X.env (eval o X.env) = eval o X.env := by rfl)
    (hfew : ((backTo cpos (starEach [e] X.env)).all (fun x => !x.1) && (backToKw cpos (keywordEach [] X.env)).all (fun x => x.1.isSome)
      && decide (([e] : List Expr).length + ([] : List Keyword).length + (if ([] : List Keyword).isEmpty then 0 else 1) < 30)) = true := by rfl)
    (hline : (apos.endLine == cpos.line) = true := by rfl) (hs : starEach [e] X.env = (false, eval e X.env) :: starEach [] X.env := by rfl) (hplain : (backTo cpos (starEach [] X.env)).any (·.1) = false := by rfl) :
    DE X p W (.Call (.Attribute o "index" apos) [e] [] cpos) (tIndex to te) :=
  ⟨PE.imp (pe_bm PySem.F.plainAttrs_list PySem.F.slot_list_index PySem.F.type_list_index mt_index ho.pe (pa_cons ha.pe pa_nil hs) hbase hfew hline hs hplain) fun σ H Q ⟨M, ρ, q, xq, S, ht, hq, hx⟩ => by
    refine ⟨M, ρ, _, _, S, ht, fun v M1 H1 ρ1 r1 P1 S1 R1 h1 => ?_, hx⟩
    obtain ⟨hty, h2⟩ := h1
    refine ⟨isLst_ty hty fun x ex => rd_ok P1.sim R1 ex, M1, ρ1, _, _, P1.sim, h2, fun u M2 H2 ρ2 r2 P2 S2 R2 h3 => ?_, fun c M2 H2 ρ2 P2 h3 => hx c M2 H2 ρ2 (P1.trans S P2) h3⟩
    obtain ⟨x, y, e1, e2, h4⟩ := f2_ok h3
    refine index_ok M2 H2 v u x y Q _ P2.sim.mok (rd_ok P2.sim (R1.post P1.sim P2 S2) e1) (rd_ok P2.sim R2 e2) h4 fun w M3 H3 z ok hz => ?_
    obtain ⟨P3, R3⟩ := ok.fin S (P1.trans S P2)
    exact hq w M3 H3 ρ2 z P3 (S1.trans S2) R3 hz⟩
end
/-! ### step by step -/
section
variable {ρ : Ev} {q : EK} {x : XQ} {q1 : RV → Prop} {xs : List D} {ds : List (Key × D)} {d y : D} {n : Nat} {i : Int} {neg : Bool}
theorem tDNew_ : tDNew ρ q x = q (.n (.dic [])) ρ := rfl
theorem gSetD_ {to ti : ET} {qg : Ev → Prop} : gSetD to ti d ρ qg = to ρ (fun r ρ1 => ti ρ1 (fun s ρ2 => some! (ownK ρ2 r) fun a => some! (keyR ρ2 s) fun k => a.2.length < sizeLine ∧ qg (put a.1 (.dic (putD a.2 k d)) ρ2)) fun _ _ => False) fun _ _ => False := rfl
theorem ownK_o : ownK ρ (.o n) = match ownS ρ[n]? with | some (.dic xs) => some (n, xs) | _ => none := rfl
theorem keyR_ {r : RV} : keyR ρ r = (rd ρ r).bind keyD := rfl
theorem keyD_i : keyD (.int i) = some (.inl i) := rfl
theorem keyD_s {z : Str} : keyD (.str z) = some (.inr z) := rfl
theorem fIn_l : fIn neg y (.lst xs) q1 = (flatD y = true ∧ xs.all flatD = true ∧ q1 (.d (.bl (neg ^^ inF y xs)))) := rfl
theorem fIn_t : fIn neg y (.tup xs) q1 = (flatD y = true ∧ xs.all flatD = true ∧ q1 (.d (.bl (neg ^^ inF y xs)))) := rfl
theorem fIn_f : fIn neg y (.fz xs) q1 = (flatD y = true ∧ xs.all flatD = true ∧ q1 (.d (.bl (neg ^^ inF y xs)))) := rfl
theorem fInD_ : fInD neg y (.dic ds) q1 = some! (keyD y) fun k => q1 (.d (.bl (neg ^^ (valD ds k).isSome))) := rfl
theorem fIxD_ : fIxD (.dic ds) y q1 = some! (keyD y) fun k => some! (valD ds k) fun d => q1 (.d d) := rfl
theorem fLRg_ : fLRg (.int i) q1 = (-(2 ^ 62) ≤ i ∧ i ≤ 16777216 ∧ q1 (.n (.lst (rngD 0 i.toNat)))) := rfl
theorem tIndex_ {to te : ET} : tIndex to te ρ q x = to ρ (fun r ρ1 => isLst (rd ρ1 r) ∧ te ρ1 (fun s ρ2 => f2 fIndex (rd ρ2 r) (rd ρ2 s) fun z => q z ρ2) x) x := rfl
theorem isLst_l : isLst (some (.lst xs)) = True := rfl
theorem isLst_f : isLst (some (.fz xs)) = True := rfl
theorem fIndex_l : fIndex (.lst xs) y q1 = (flatD y = true ∧ xs.all flatD = true ∧ ∃ (j : Nat) (z : D), xs[j]? = some z ∧ eqF z y = true ∧ (∀ (m : Nat) (z' : D), m < j → xs[m]? = some z' → eqF z' y = false) ∧ q1 (.d (.int (j : Int)))) := rfl
theorem fSl_l {lo hi : Option Int} : fSl (.lst xs) lo hi q1 = q1 (.n (.lst (cutD xs lo hi))) := rfl
theorem fSl_t {lo hi : Option Int} : fSl (.tup xs) lo hi q1 = q1 (.d (.tup (cutD xs lo hi))) := rfl
theorem flatD_i : flatD (.int i) = true := rfl
theorem flatD_s {z : Str} : flatD (.str z) = true := rfl
theorem all_ints : ∀ (ns : List Int), (ns.map D.int).all flatD = true
  | [] => rfl
  | _ :: ns => by rw [List.map_cons, List.all_cons, all_ints ns]; rfl
/-- xs[:k] -/
theorem cutD_to {k : Nat} : cutD xs none (some (k : Int)) = xs.take k := by
  unfold cutD
  rw [HT.sIx_none, HT.sIx_nat, List.drop_zero, Nat.sub_zero]
  rcases Nat.le_total k xs.length with h | h
  · rw [Nat.min_eq_left h]
  · rw [Nat.min_eq_right h, List.take_of_length_le (Nat.le_refl _), List.take_of_length_le h]
/-- xs[k:] -/
theorem cutD_from {k : Nat} : cutD xs (some (k : Int)) none = xs.drop k := by
  unfold cutD
  rw [HT.sIx_none, HT.sIx_nat]
  rcases Nat.le_total k xs.length with h | h
  · rw [Nat.min_eq_left h, List.take_of_length_le (by rw [List.length_drop]; omega)]
  · rw [Nat.min_eq_right h, List.drop_of_length_le (Nat.le_refl _), List.drop_of_length_le h]
    rw [List.take_nil]
theorem inF_ints {i : Int} : ∀ (ns : List Int), inF (.int i) (ns.map D.int) = decide (i ∈ ns)
  | [] => by simp [inF]
  | a :: ns => by
    have ih := inF_ints (i := i) ns
    show (a == i || inF (.int i) (ns.map D.int)) = _
    rw [ih]
    by_cases e : i = a
    · subst e; simp
    · have : (a == i) = false := by simp; omega
      rw [this, Bool.false_or]
      simp [e]
end
end DL

set_option Elab.async false
set_option linter.all false
set_option maxRecDepth 100000
set_option maxHeartbeats 4000000
namespace DL
open PySem PySem.Spec PyProof.Rows L2
/-! ### texts -/
theorem tx_ext {a b : Str} (h : a.cps.toList = b.cps.toList) : a = b := by
  obtain ⟨x⟩ := a
  obtain ⟨y⟩ := b
  have h : x.toList = y.toList := h
  rw [Array.toList_inj] at h
  rw [h]
theorem tx_len (z : Str) : z.length = z.cps.toList.length := by
  show z.cps.size = _
  simp
/-- z * k -/
def repS (z : Str) (k : Nat) : Str := ⟨(List.replicate k z.cps.toList).flatten.toArray⟩
theorem foldl_reps (z : Array Nat) : ∀ (k : Nat) (acc : Array Nat), (List.replicate k z).foldl (· ++ ·) acc = (acc.toList ++ (List.replicate k z.toList).flatten).toArray
  | 0, acc => by simp
  | k + 1, acc => by
    rw [List.replicate_succ, List.foldl_cons, foldl_reps z k, List.replicate_succ, List.flatten_cons]
    simp
def rMulS : R2 := fun x y H Q => ∃ z k, x = .str z ∧ y = .int k ∧ z.length = 1 ∧ -(2 ^ 63) ≤ k ∧ k ≤ 16777216 ∧ Q (.str (repS z k.toNat)) H
theorem op_mulS {X : Cx} : OpR X (binaryOp .Mult) rMulS := by
  intro pins s σ H x y v u Q I rx ry h
  obtain ⟨z, k, rfl, rfl, hz, h1, h2, q⟩ := h
  obtain ⟨t, rfl⟩ := rx
  obtain ⟨t', rfl⟩ := ry
  have hl : (repS z k.toNat).length ≤ sizeLine := by
    show (repS z k.toNat).cps.size ≤ _
    have e : z.cps.toList.length = 1 := by rw [← tx_len]; exact hz
    rw [show (repS z k.toNat).cps.size = ((List.replicate k.toNat z.cps.toList).flatten).length by simp [repS]]
    rw [List.length_flatten, List.map_replicate, List.sum_replicate_nat, e, sizeLine_eq]
    omega
  refine PySem.P.mul_str (by rw [decide_eq_false (by omega), decide_eq_false (by omega)]; rfl) (fun a b => ?_) (fun a b => ?_) ?_
  · rw [hz]
    have : (1 : Int) ≤ (2 ^ 63 - 1) / k := by
      rw [Int.le_ediv_iff_mul_le (by omega)]
      omega
    omega
  · rw [hz, Nat.one_mul]
    show decide _ = false
    rw [sizeLine_eq]
    exact decide_eq_false (by omega)
  · by_cases hk : k < 1
    · rw [if_pos hk]
      have e : repS z k.toNat = Str.empty := by
        rw [show k.toNat = 0 by omega]
        rfl
      rw [e] at q
      exact ⟨Nat.zero_le _, ⟨.str Str.empty, H, I.tok _, ⟨_, rfl⟩, q⟩⟩
    · rw [if_neg hk]
      by_cases hk1 : (k == 1 || z.length == 0) = true
      · rw [if_pos hk1]
        have : k = 1 := by
          rw [hz] at hk1
          simpa using hk1
        subst this
        have e : repS z (Int.toNat 1) = z := tx_ext (by simp [repS])
        rw [e] at q
        exact ⟨.str z, H, I, ⟨_, rfl⟩, q⟩
      · rw [if_neg hk1, foldl_reps]
        have e : (⟨((#[] : Array Nat).toList ++ (List.replicate k.toNat z.cps.toList).flatten).toArray⟩ : Str) = repS z k.toNat := by
          simp [repS]
        rw [e]
        exact ⟨hl, ⟨.str _, H, I.tok _, ⟨_, rfl⟩, q⟩⟩
def fMulS : D → D → (RV → Prop) → Prop := fun a b q => match a, b with
  | .str z, .int k => z.length = 1 ∧ -(2 ^ 63) ≤ k ∧ k ≤ 16777216 ∧ q (.d (.str (repS z k.toNat)))
  | _, _ => False
theorem rMulS_ok {K : PySem.W.Frag} : R2D K rMulS fMulS := by
  intro M H x y a b Q q mok ra rb h k
  cases a with
  | str z =>
    cases b with
    | int j => exact ⟨z, j, ra.str, rb.int, h.1, h.2.1, h.2.2.1, k _ M H _ (ResOk.same mok (.str _)) h.2.2.2⟩
    | _ => exact h.elim
  | _ => exact h.elim
section
variable {X : Cx} {p : Option Addr} {W : WX} {a b c e tg : Expr} {ta tb tc te : ET} {pos pos' : Pos}
theorem de_mulS (ha : DE X p W a ta) (hb : DE X p W b tb) : DE X p W (.BinOp a .Mult b pos) (t2 fMulS ta tb) := de_op op_mulS rMulS_ok ha hb
/-- the signs of a text -/
def signs (z : Str) : List D := z.cps.toList.map fun c => .str ⟨#[c]⟩
def iStrD (te : ET) : IT := fun ρ q x => te ρ (fun r ρ1 => some! (settle ρ1 r) fun z => match z.1 with
  | .str s => q (signs s) z.2
  | _ => False) x
theorem it_str {K : PySem.W.Frag} {M : Addr → Prop} {H : Hp} (z : Str) : ItOk K M H (Its z) (signs z) := fun M' H' k mok => by
  have hs : z.cps.size = z.cps.toList.length := by simp
  refine ⟨fun i d hi => ?_, ?_⟩
  · unfold signs at hi
    rw [List.getElem?_map] at hi
    obtain ⟨c, hc, rfl⟩ := Option.map_eq_some_iff.mp hi
    have hl : i < z.cps.toList.length := (List.getElem?_eq_some_iff.mp hc).1
    refine ⟨show i < z.cps.size by omega, fun x H'' y => ?_⟩
    obtain ⟨e, c', hc', ex⟩ := y
    subst e ex
    have : c = c' := by
      rw [← Array.getElem?_toList, hc] at hc'
      exact Option.some.inj hc'
    subst this
    exact ⟨M', Step.refl, mok, .str _⟩
  · show z.cps.size ≤ (signs z).length
    rw [signs, List.length_map]
    omega
theorem di_str (he : DE X p W e te) : DI X p W tg e (iStrD te) := ⟨PI.imp (pi_str he.pe) fun σ H R ⟨M, ρ, q, xq, S, h, hq, hx⟩ => by
  refine ⟨M, ρ, _, _, S, h, fun v M1 H1 ρ1 r P1 S1 R1 h1 => ?_, hx⟩
  obtain ⟨⟨d, ρ2⟩, e1, h2⟩ := some!_ok h1
  obtain ⟨M2, P2, S2, R2⟩ := settleN_ok S P1 R1 e1
  cases R2 with
  | str z => exact ⟨z, rfl, hq _ M2 H1 ρ2 _ P2 (it_str z) h2⟩
  | _ => exact h2.elim⟩
end
/-! methods of texts -/
def isStr : Option D → Prop
  | some (.str _) => True
  | _ => False
theorem isStr_ty {K : PySem.W.Frag} {M : Addr → Prop} {H : Hp} {v : V} {d : Option D} (h : isStr d) (r : ∀ x, d = some x → RepC K M H v x) : tyV K "str" v H := by
  cases d with
  | none => exact h.elim
  | some d =>
    cases d with
    | str z =>
      rw [(r _ rfl).str]
      rfl
    | _ => exact h.elim
def tStrM (f : D → D → (RV → Prop) → Prop) (to te : ET) : ET := fun ρ q x => to ρ (fun r ρ1 => isStr (rd ρ1 r) ∧ te ρ1 (fun s ρ2 => f2 f (rd ρ2 r) (rd ρ2 s) fun z => q z ρ2) x) x
def fEndsW : D → D → (RV → Prop) → Prop := fun a b q => match a, b with
  | .str x, .str y => q (.d (.bl (Txt.endswith x y)))
  | _, _ => False
def fJoin : D → D → (RV → Prop) → Prop := fun a b q => match a, b with
  | .str x, .lst ds => ∃ ys : List Str, ds = ys.map D.str ∧ (ys.map (·.length)).sum + ys.length * x.length ≤ 16777216 ∧ q (.d (.str (Str.join x ys)))
  | _, _ => False
theorem repL_strs {K : PySem.W.Frag} {M : Addr → Prop} {H : Hp} : ∀ {vs : List V} {ys : List Str}, RepL K M H vs (ys.map D.str) → vs = ys.map V.str
  | _, [], .nil => rfl
  | _, y :: ys, .cons r t => by
    cases r
    rw [List.map_cons, repL_strs t]
section
variable {X : Cx} {p : Option Addr} {W : WX} {o e : Expr} {to te : ET} {apos cpos : Pos} {m : Str} {id : String} {f : D → D → (RV → Prop) → Prop} {r : V → List V → Hp → VK → Prop}
theorem de_strM (slot : Slot "str" m id) (hty : typeOf (.builtin id) = pure (.type "method_descriptor")) (hm : MtR X id r) (hr : R2D X.K (fun x y H Q => r x [y] H Q) f) (ho : DE X p W o to) (ha : DE X p W e te)
    (hbase : attributeBase o m X.env (eval o X.env) = eval o X.env := by rfl)
    (hfew : ((backTo cpos (starEach [e] X.env)).all (fun x => !x.1) && (backToKw cpos (keywordEach [] X.env)).all (fun x => x.1.isSome)
      && decide (([e] : List Expr).length + ([] : List Keyword).length + (if ([] : List Keyword).isEmpty then 0 else 1) < 30)) = true := by rfl)
    (hline : (apos.endLine == cpos.line) = true := by rfl) (hs : starEach [e] X.env = (false, eval e X.env) :: starEach [] X.env := by rfl) (hplain : (backTo cpos (starEach [] X.env)).any (·.1) = false := by rfl) :
    DE X p W (.Call (.Attribute o m apos) [e] [] cpos) (tStrM f to te) :=
  ⟨PE.imp (pe_bm PySem.F.plainAttrs_str slot hty hm ho.pe (pa_cons ha.pe pa_nil hs) hbase hfew hline hs hplain) fun σ H Q ⟨M, ρ, q, xq, S, ht, hq, hx⟩ => by
    refine ⟨M, ρ, _, _, S, ht, fun v M1 H1 ρ1 r1 P1 S1 R1 h1 => ?_, hx⟩
    obtain ⟨hty, h2⟩ := h1
    refine ⟨isStr_ty hty fun x ex => rd_ok P1.sim R1 ex, M1, ρ1, _, _, P1.sim, h2, fun u M2 H2 ρ2 r2 P2 S2 R2 h3 => ?_, fun c M2 H2 ρ2 P2 h3 => hx c M2 H2 ρ2 (P1.trans S P2) h3⟩
    obtain ⟨x, y, e1, e2, h4⟩ := f2_ok h3
    refine hr M2 H2 v u x y Q _ P2.sim.mok (rd_ok P2.sim (R1.post P1.sim P2 S2) e1) (rd_ok P2.sim R2 e2) h4 fun w M3 H3 z ok hz => ?_
    obtain ⟨P3, R3⟩ := ok.fin S (P1.trans S P2)
    exact hq w M3 H3 ρ2 z P3 (S1.trans S2) R3 hz⟩
end
theorem ends_ok {K : PySem.W.Frag} : R2D K (fun x y H Q => ∃ a b, x = .str a ∧ [y] = [V.str b] ∧ Q (.bl (Txt.endswith a b)) H) fEndsW := by
  intro M H x y a b Q q mok ra rb h k
  cases a with
  | str z =>
    cases b with
    | str w => exact ⟨z, w, ra.str, by rw [rb.str], k _ M H _ (ResOk.same mok (.bl _)) h⟩
    | _ => exact h.elim
  | _ => exact h.elim
theorem join_ok {K : PySem.W.Frag} : R2D K (fun x y H Q => ∃ a p, ∃ ys : List Str, x = .str a ∧ [y] = [V.ref p] ∧ (SqL K H p (ys.map V.str) ∨ SqT K H p (ys.map V.str)) ∧ (ys.map (·.length)).sum + ys.length * a.length ≤ 16777216 ∧ Q (.str (Txt.join a ys)) H) fJoin := by
  intro M H x y a b Q q mok ra rb h k
  cases a with
  | str z =>
    cases b with
    | lst ds =>
      obtain ⟨ys, rfl, hz, h⟩ := h
      obtain ⟨p, xs, rfl, hx, r⟩ := rb.lst
      rw [repL_strs r] at hx
      rw [← TL.join_eq] at h
      exact ⟨z, p, ys, ra.str, rfl, .inl (SqL.of hx), hz, k _ M H _ (ResOk.same mok (.str _)) h⟩
    | _ => exact h.elim
  | _ => exact h.elim
section
variable {X : Cx} {p : Option Addr} {W : WX} {o e : Expr} {to te : ET} {apos cpos : Pos}
theorem de_endswith (ho : DE X p W o to) (ha : DE X p W e te) (hbase : attributeBase o "endswith" X.env (eval o X.env) = eval o X.env := by rfl)
    (hfew : ((backTo cpos (starEach [e] X.env)).all (fun x => !x.1) && (backToKw cpos (keywordEach [] X.env)).all (fun x => x.1.isSome)
      && decide (([e] : List Expr).length + ([] : List Keyword).length + (if ([] : List Keyword).isEmpty then 0 else 1) < 30)) = true := by rfl)
    (hline : (apos.endLine == cpos.line) = true := by rfl) (hs : starEach [e] X.env = (false, eval e X.env) :: starEach [] X.env := by rfl) (hplain : (backTo cpos (starEach [] X.env)).any (·.1) = false := by rfl) :
    DE X p W (.Call (.Attribute o "endswith" apos) [e] [] cpos) (tStrM fEndsW to te) := de_strM PySem.F.slot_str_endswith PySem.F.type_str_endswith mt_endswith ends_ok ho ha hbase hfew hline hs hplain
theorem de_join (ho : DE X p W o to) (ha : DE X p W e te) (hbase : attributeBase o "join" X.env (eval o X.env) = eval o X.env := by rfl)
    (hfew : ((backTo cpos (starEach [e] X.env)).all (fun x => !x.1) && (backToKw cpos (keywordEach [] X.env)).all (fun x => x.1.isSome)
      && decide (([e] : List Expr).length + ([] : List Keyword).length + (if ([] : List Keyword).isEmpty then 0 else 1) < 30)) = true := by rfl)
    (hline : (apos.endLine == cpos.line) = true := by rfl) (hs : starEach [e] X.env = (false, eval e X.env) :: starEach [] X.env := by rfl) (hplain : (backTo cpos (starEach [] X.env)).any (·.1) = false := by rfl) :
    DE X p W (.Call (.Attribute o "join" apos) [e] [] cpos) (tStrM fJoin to te) := de_strM PySem.F.slot_str_join PySem.F.type_str_join mt_join join_ok ho ha hbase hfew hline hs hplain
/-- {x: c}, x a slot, c a whole number -/
def tDisp1 (i : Nat) (c : Int) : ET := fun ρ q _ => match ρ[i]? with
  | some (.va d) => some! (keyD d) fun k => q (.n (.dic [(k, .int c)])) ρ
  | _ => False
theorem de_disp1 (i : Nat) {x : Str} {c : Int} {j : Nat} {p1 p2 pos : Pos} (hN : X.N[i]? = some x := by rfl) (hv : Vis X.env.scope x := by first | exact Or.inl rfl | exact Or.inr (Or.inl rfl) | exact Or.inr (Or.inr rfl)) (hd : (x == ("__debug__" : Str)) = false := by decide)
    (hcd : (x == ("__classdict__" : Str)) = false := by decide) : DE X p W (.Dict [some (.Name x p1)] [.Constant (.int c) j p2] pos) (tDisp1 i c) :=
  ⟨PE.imp (pe_disp (pps_cons (pe_var hN hv hd hcd) pe_int pps_nil) rfl rfl (by simp) (Nat.le_add_left 1 14)) fun σ H Q ⟨M, ρ, q, xq, S, ht, hq, hx⟩ => fun l hl => by
    unfold tDisp1 at ht
    split at ht
    · rename_i d e
      obtain ⟨k, ek, h⟩ := some!_ok ht
      obtain ⟨v, es, rv⟩ := S.va i d e
      obtain rfl : v = kV k := keyD_ok (.inl rv) ek
      refine ⟨_, es, upd_same, [(k, .int c)], rfl, Nat.le_add_left 1 14, ?_⟩
      obtain ⟨P, R⟩ := (ResOk.dic (K := X.K) (xs := [(k, .int c)]) (ds := [(k, .int c)]) S.mok hl (.cons (.int c) .nil)).fin S (Post.refl S)
      have e2 : upd (upd H l (.dK [])) l (.dK (mergeK [] [(k, V.int c)])) = upd H l (.dK [(k, V.int c)]) := by
        funext z
        by_cases hz : z = l
        · rw [hz, upd_same, upd_same]
          rfl
        · rw [upd_ne hz, upd_ne hz, upd_ne hz]
      rw [e2]
      exact hq _ _ _ ρ _ P (Slots.refl ρ) R h
    · exact ht.elim⟩
end
/-! ### step by step -/
section
variable {ρ : Ev} {q : EK} {x : XQ} {q1 : RV → Prop} {xs : List D} {d y : D} {n : Nat} {i : Int} {a b : Str} {qi : List D → Ev → Prop}
theorem fMulS_ : fMulS (.str a) (.int i) q1 = (a.length = 1 ∧ -(2 ^ 63) ≤ i ∧ i ≤ 16777216 ∧ q1 (.d (.str (repS a i.toNat)))) := rfl
theorem iStrD_ {te : ET} : iStrD te ρ qi x = te ρ (fun r ρ1 => some! (settle ρ1 r) fun z => some! (match z.1 with | .str s => some s | _ => none) fun s => qi (signs s) z.2) x := by
  unfold iStrD
  congr 1
  funext r ρ1
  congr 1
  funext z
  obtain ⟨z1, z2⟩ := z
  cases z1 <;> rfl
theorem tStrM_ {f : D → D → (RV → Prop) → Prop} {to te : ET} : tStrM f to te ρ q x = to ρ (fun r ρ1 => isStr (rd ρ1 r) ∧ te ρ1 (fun s ρ2 => f2 f (rd ρ2 r) (rd ρ2 s) fun z => q z ρ2) x) x := rfl
theorem isStr_ : isStr (some (.str a)) = True := rfl
theorem fEndsW_ : fEndsW (.str a) (.str b) q1 = q1 (.d (.bl (Txt.endswith a b))) := rfl
theorem fJoin_ : fJoin (.str a) (.lst xs) q1 = ∃ ys : List Str, xs = ys.map D.str ∧ (ys.map (·.length)).sum + ys.length * a.length ≤ 16777216 ∧ q1 (.d (.str (Str.join a ys))) := rfl
theorem tDisp1_ {j : Nat} {c : Int} : tDisp1 j c ρ q x = some! (match ρ[j]? with | some (.va d) => keyD d | _ => none) fun k => q (.n (.dic [(k, .int c)])) ρ := by
  unfold tDisp1
  split <;> rfl
theorem fNe_s {z y : Str} : fNe (.str z) (.str y) q1 = (shD (.str z) ∧ shD (.str y) ∧ q1 (.d (.bl (!eqD (.str z) (.str y))))) := rfl
theorem fLen_s : fLen [.str a] q1 = (a.length ≤ sizeLine ∧ q1 (.d (.int (a.length : Int)))) := rfl
theorem fAdd_s : fAdd (.str a) (.str b) q1 = (a.length + b.length ≤ sizeLine ∧ q1 (.d (.str (a ++ b)))) := rfl
theorem fIx_s : fIx (.str a) (.int i) q1 = (a.length ≤ sizeLine ∧ some! (atI a.cps.toList i) fun c => q1 (.d (.str ⟨#[c]⟩))) := rfl
theorem fSl_s {lo hi : Option Int} : fSl (.str a) lo hi q1 = (a.length ≤ sizeLine ∧ q1 (.d (.str (cutS a lo hi)))) := rfl
end
end DL

local macro_rules | `(tactic| walk_at "dl") => `(tactic| (simp (config := { failIfUnchanged := false, dsimp := false }) only [↓DL.sNext_, ↓DL.sSeq_, ↓DL.sBreak_, ↓DL.sCont_, ↓DL.sExpr_, ↓DL.sRet_, ↓DL.sRetN_, ↓DL.sIf_, ↓DL.sSet_, ↓DL.sAug_, ↓DL.sPar_, ↓DL.sPar3_, ↓DL.sAsg_, ↓DL.sRaise_, ↓DL.sTryW_, ↓DL.sFor_, ↓DL.sWhile_, ↓DL.tLc_, ↓DL.tK_, ↓DL.tV_, ↓DL.t2_, ↓DL.t1_, ↓DL.tT_, ↓DL.tTr_, ↓DL.tCh_, ↓DL.bAnd_, ↓DL.bOr_, ↓DL.bNot_, ↓DL.bYes_, ↓DL.tAnd_, ↓DL.tOr_, ↓DL.tNot_, ↓DL.tIf_, ↓DL.aNil_, ↓DL.aCons_, ↓DL.tC_, ↓DL.tTup_, ↓DL.tLst_, ↓DL.tCall_, ↓DL.tCallIO_, ↓DL.tAppend_, ↓DL.tPop_, ↓DL.tDNew_, ↓DL.gSetD_, ↓DL.tIndex_, ↓DL.oNone_, ↓DL.oSome_, ↓DL.tSl_, ↓DL.iSeqD_, ↓DL.iR1_, ↓DL.iR2_, ↓DL.iR3_, ↓DL.gVar_, ↓DL.gTup_, ↓DL.gsNil_, ↓DL.gsCons_, ↓DL.gSetL_, ↓DL.sm_, ↓DL.fm1_, ↓DL.fm2_, ↓DL.br_, DL.sm_some, DL.fm1_some, DL.fm2_some, DL.br_true, DL.br_false, DL.br_not, DL.ioR_, DL.rd_d, DL.rd_n, DL.rd_o, DL.rdS_va, DL.rdS_ow, DL.rdS_io, DL.slR_va, DL.slR_ow, DL.slR_io, DL.blR_, DL.intR_, DL.cool_d, DL.cool_n', DL.cool_o, DL.rdL_nil, DL.rdL_c, DL.settle_d, DL.settle_n, DL.settle_o, DL.settleS_va, DL.settleS_ow, DL.settleL_nil, DL.settleL_c, DL.store_d, DL.store_n, DL.store_o, DL.storeS_ow, DL.retR_d, DL.retR_n, DL.retR_o, DL.retS_ow, DL.ripe_d, DL.ripe_n, DL.ownL_o, DL.ownS_ow, DL.ownK_o, DL.keyR_, DL.keyD_i, DL.keyD_s, DL.fIn_l, DL.fIn_t, DL.fIn_f, DL.fInD_, DL.fIxD_, DL.fLRg_, DL.isLst_l, DL.isLst_f, DL.fIndex_l, DL.fSl_l, DL.fSl_t, DL.flatD_i, DL.flatD_s, Option.bind_some, DL.ownS_io, DL.put_, DL.putS_ow, DL.putS_io, DL.seqS_lst, DL.seqS_tup, DL.seqS_fz, DL.ioS_io, DL.fI_, DL.fI0_, DL.fAdd_i, DL.fAdd_l, DL.fMul_i, DL.fMul_l, DL.fIx_l, DL.fIx_t, DL.fIx_f, DL.fNeg_, DL.fLen_l, DL.fLen_t, DL.fLen_f, DL.fAbs_, DL.fInt1_i, DL.fInt1_b, DL.fInts2_, DL.fTuple_l, DL.fTuple_t, DL.fList_l, DL.fList_t, DL.fList_f, DL.fLRev_, DL.fDivmod_, DL.fGcd_, DL.ripe_o, DL.fIsi_, DL.fIs_n, DL.fEq_i, DL.fEq_b, DL.fNe_i, DL.fNe_b, DL.fEq_t, DL.fEq_l, DL.fNe_l, DL.fNe_t, DL.fEq_s, DL.truD_b, DL.truD_i, DL.truD_n, DL.isD, DL.isNon, DL.startE, DL.startIO, ↓DL.iStrD_, ↓DL.tStrM_, ↓DL.tDisp1_, DL.fMulS_, DL.fNe_s, DL.isStr_, DL.fEndsW_, DL.fJoin_, DL.fLen_s, DL.fAdd_s, DL.fIx_s, DL.fSl_s, DL.atI_0, DL.atI_1, DL.atI_2, DL.atI_3, DL.atI_4, DL.atI_5, DL.atI_6, DL.atI_7, DL.atI_8, DL.atI_9, DL.atI_10, DL.atI_11,
    List.getElem?_cons_zero, List.getElem?_cons_succ, List.getElem?_nil, List.set_cons_zero, List.set_cons_succ, List.length_cons, List.length_nil, List.map_cons, List.map_nil, List.replicate, List.cons_append, List.nil_append, List.length, Nat.reduceSub, Nat.reduceAdd, Nat.reduceMul, Nat.reduceLeDiff, Bool.not_true, Bool.not_false, if_true, if_false, decide_true, decide_false, Int.cast_ofNat_Int, Int.reduceEq, Int.reduceNeg, Int.reduceSub, Int.reduceAdd, Int.reduceMul, reduceCtorEq, Bool.false_eq_true, ite_true, ite_false, ↓reduceIte, true_and, and_true, Bool.xor_false, Bool.xor_true, Bool.false_xor, Bool.true_xor]; try (first | rw [DL.br_dec] | rw [DL.br_any])))
local macro_rules | `(tactic| walk_at "bt") => `(tactic| with_reducible repeat' (first | assumption | exact DL.bt_lit (by decide) | apply DL.Bt.mul | apply DL.Bt.add | apply DL.Bt.sub | apply DL.Bt.div | apply DL.Bt.neg))
local macro_rules | `(tactic| walk_at "cm") => `(tactic| (apply DL.cmulx; (focus walk_at "bt"); (focus walk_at "bt"); decide))

set_option Elab.async false
set_option linter.all false
set_option maxRecDepth 100000
set_option maxHeartbeats 4000000
namespace LW
open PySem PySem.Spec PyProof.Rows L2 DL
/-! ### the defs that every law has: their readings, printed by gen.py -/
def T_is_number : ST := (sRet (tAnd' (t1 (fIsi .int) (tV 0)) (tAnd' (tNot' (t1 (fIsi .bool) (tV 0))) (tCh fLe fLe (tV 1) (tV 0) (tV 2)))))
def T__law_draws : ST := (sSeq (sSet 1 (tLst' aNil))
    (sSeq (sFor (iSeqD (tV 0)) (gVar 2) (sSeq (sSet 3 (tC' fAbs (aCons (tV 2) aNil)))
    (sSeq (sIf (tT (t2 (fLt) (tV 3) (t2 fPow (tK (.int 10)) (tK (.int 18))))) (sSeq (sSet 4 (t2 fMod (tC' fInt1 (aCons (t2 fAdd (t2 fMul (tV 3) (tK (.int 48271))) (tK (.int 11))) aNil)) (tK (.int 2147483647))))
    (sSeq (sExpr (tAppend (tV 1) (aCons (t2 fMod (tC' fInt1 (aCons (t2 fAdd (t2 fMul (tV 4) (tK (.int 69621))) (tV 3)) aNil)) (tK (.int 2147483629))) aNil)))
    (sSeq (sExpr (tAppend (tV 1) (aCons (t2 fMod (tC' fInt1 (aCons (t2 fAdd (tV 4) (t2 fDiv (tV 3) (tK (.int 7)))) aNil)) (tK (.int 1000003))) aNil)))
    (sSet 3 (tK (.int 0)))))) sNext)
    (sFor (iR1 (aCons (tK (.int 60)) aNil)) (gVar 5) (sIf (tT (t2 (fGt) (tV 3) (tK (.int 0)))) (sSeq (sExpr (tAppend (tV 1) (aCons (t2 fMod (tC' fInt1 (aCons (tV 3) aNil)) (tK (.int 997))) aNil)))
    (sSet 3 (t2 fDiv (tV 3) (tK (.int 997))))) sNext)))))
    (sSeq (sSet 6 (tK (.int 1)))
    (sSeq (sIf (tT (t2 (fGt) (tC' fLen (aCons (tV 0) aNil)) (tK (.int 0)))) (sSet 6 (t2 fAdd (tK (.int 1)) (tC' fAbs (aCons (t2 fIx (tV 0) (tK (.int 0))) aNil)))) sNext)
    (sSeq (sFor (iR1 (aCons (tK (.int 900)) aNil)) (gVar 5) (sSeq (sSet 6 (t2 fMod (tC' fInt1 (aCons (t2 fAdd (t2 fMul (tV 6) (tK (.int 48271))) (tK (.int 69621))) aNil)) (tK (.int 2147483647))))
    (sExpr (tAppend (tV 1) (aCons (t2 fDiv (tV 6) (tK (.int 5))) aNil)))))
    (sRet (t1 fLRev (tV 1))))))))
def T__law_take : ST := (sSeq (sIf (tT (t2 (fEq) (tC' fLen (aCons (tV 0) aNil)) (tK (.int 0)))) (sRet (tK (.int 0))) sNext)
    (sRet (t2 fMod (tC' fInt1 (aCons (tPop (tV 0)) aNil)) (tV 1))))
def T__law_alike (sp__law_alike : PSp) : ST := (sSeq (sIf (bOr (tTr (t1 (fIsi .list) (tV 1))) (tTr (t1 (fIsi .tuple) (tV 1)))) (sSeq (sIf (bOr (tT (t2 (fNe) (t1 (fIsi .list) (tV 0)) (t1 (fIsi .list) (tV 1)))) (tT (t2 (fNe) (t1 (fIsi .tuple) (tV 0)) (t1 (fIsi .tuple) (tV 1))))) (sRet (tK (.bl false))) sNext)
    (sRet (tAnd' (t2 (fEq) (tC' fLen (aCons (tV 0) aNil)) (tC' fLen (aCons (tV 1) aNil))) (t2 (fEq) (tLc' (iR1 (aCons (tC' fLen (aCons (tV 1) aNil)) aNil)) (gVar 2) (bNot (tTr (tCall' sp__law_alike (aCons (t2 fIx (tV 0) (tV 2)) (aCons (t2 fIx (tV 1) (tV 2)) aNil))))) (tV 2) [2]) (tLst' aNil))))) sNext)
    (sSeq (sIf (tT (t2 (fIs false) (tV 1) (tK .non))) (sRet (t2 (fIs false) (tV 0) (tK .non))) sNext)
    (sSeq (sIf (bOr (tTr (t1 (fIsi .bool) (tV 1))) (tTr (t1 (fIsi .bool) (tV 0)))) (sRet (tAnd' (t1 (fIsi .bool) (tV 0)) (tAnd' (t1 (fIsi .bool) (tV 1)) (t2 (fEq) (tV 0) (tV 1))))) sNext)
    (sSeq (sIf (tTr (t1 (fIsi .int) (tV 1))) (sRet (tAnd' (t1 (fIsi .int) (tV 0)) (t2 (fEq) (tV 0) (tV 1)))) sNext)
    (sRet (tAnd' (t1 (fIsi .str) (tV 0)) (t2 (fEq) (tV 0) (tV 1))))))))
def T__law_says : ST := (sRet (tAnd' (t1 (fIsi .bool) (tV 0)) (t2 (fEq) (tV 0) (tV 1))))

/-! ### what they promise -/
abbrev SEr (q : RV → Prop) (x : Addr → Prop) : SE := ⟨fun _ => q (.d .non), fun r _ => q r, fun _ => False, fun _ => False, fun c _ => x c⟩
def numB : D → Int → Int → Bool
  | .int i, a, b => decide (a ≤ i) && decide (i ≤ b)
  | _, _, _ => false
def sp_is_number : PSp := fun ds q _ => ∃ v a b, ds = [v, .int a, .int b] ∧ isOp v = false ∧ q (.d (.bl (numB v a b)))
theorem is_number_ok (ds q x) (h : sp_is_number ds q x) : T_is_number (SEr q x) (startE ["value", "least", "most"] ds) := by
  obtain ⟨v, a, b, rfl, ho, h⟩ := h
  unfold T_is_number
  cases v with
  | op v => cases ho
  | int i =>
    walk_at "dl"
    have h : q (.d (.bl (decide (a ≤ i) && decide (i ≤ b)))) := h
    split
    · rename_i h1
      rw [decide_eq_true h1, Bool.true_and] at h
      exact h
    · rename_i h1
      rw [decide_eq_false h1, Bool.false_and] at h
      exact h
  | _ => walk_at "dl"; exact h
theorem numB_t {t a b : Int} (h : a ≤ t ∧ t ≤ b) : numB (.int t) a b = true := by
  show (decide _ && decide _) = true
  rw [decide_eq_true h.1, decide_eq_true h.2]
  rfl
theorem numB_f {t a b : Int} (h : ¬ (a ≤ t ∧ t ≤ b)) : numB (.int t) a b = false := by
  show (decide _ && decide _) = false
  rw [← Bool.decide_and]
  exact decide_eq_false h
/-! _law_says -/
def sp_says : PSp := fun ds q _ => ∃ b, ds = [.bl b, .bl b] ∧ q (.d (.bl true))
theorem says_ok (ds q x) (h : sp_says ds q x) : T__law_says (SEr q x) (startE ["told", "due"] ds) := by
  obtain ⟨b, rfl, h⟩ := h
  unfold T__law_says
  walk_at "dl"
  exact h
/-! _law_take -/
def sp_take : PSpIO := fun d ds q _ => ∃ (rs : List Int) (b : Int), d = .lst (rs.map .int) ∧ ds = [.int b] ∧ 0 < b ∧ ∀ (r : Int) (rs' : List Int), 0 ≤ r → r < b → q (.d (.int r)) (.lst (rs'.map .int))
theorem take_ok (d ds q x) (h : sp_take d ds q x) : T__law_take ⟨fun ρ => some! (ioS ρ[0]?) fun y => q (.d .non) y, fun r ρ => some! (ioS ρ[0]?) fun y => q r y, fun _ => False, fun _ => False, fun c ρ => some! (ioS ρ[0]?) fun y => x c y⟩ (startIO ["draws", "bound"] d ds) := by
  obtain ⟨rs, b, rfl, rfl, hb, h⟩ := h
  unfold T__law_take
  walk_at "dl"
  split
  · walk_at "dl"
    exact h 0 rs (by omega) hb
  · rename_i h0
    rw [List.length_map] at h0
    have hn : rs.length - 1 < rs.length := by omega
    (walk_at "dl"; repeat (simp only [List.length_map, List.getElem?_map, List.getElem?_eq_getElem hn, Option.map_some, ← List.map_dropLast]; walk_at "dl"))
    exact ⟨hb, h _ _ (Int.emod_nonneg _ (by omega)) (Int.emod_lt_of_pos _ hb)⟩
/-! _law_draws -/
def sp_draws : PSp := fun ds q _ => ∃ ns : List Int, ds = [.fz (ns.map .int)] ∧ ns.length ≤ 63 ∧ (∀ z ∈ ns, Bt 1048576 z) ∧ ∀ rs : List Int, q (.n (.lst (rs.map .int)))
abbrev dInner : ST := (sFor (iR1 (aCons (tK (D.int 60)) aNil)) (gVar 5)
          (sIf (tT (t2 fGt (tV 3) (tK (D.int 0))))
            (sSeq (sExpr (tAppend (tV 1) (aCons (t2 fMod (tC' fInt1 (aCons (tV 3) aNil)) (tK (D.int 997))) aNil)))
              (sSet 3 (t2 fDiv (tV 3) (tK (D.int 997)))))
            sNext))
theorem rng_get {lo : Int} {n i : Nat} {d : D} (h : (rngD lo n)[i]? = some d) : i < n ∧ d = .int (lo + (i : Int)) := by
  unfold rngD at h
  rw [List.getElem?_map] at h
  rcases Nat.lt_or_ge i n with g | g
  · rw [List.getElem?_range g] at h
    exact ⟨g, (Option.some.inj h).symm⟩
  · rw [List.getElem?_eq_none (by rw [List.length_range]; exact g)] at h
    cases h
theorem rng_len {lo : Int} {n : Nat} : (rngD lo n).length = n := by
  unfold rngD
  rw [List.length_map, List.length_range]
theorem ints_snoc (ds : List Int) (i : Int) : ds.map D.int ++ [.int i] = (ds ++ [i]).map D.int := by rw [List.map_append]; rfl
theorem inner_ok (e : SE) (s0 s2 s4 s5 s6 : Sl) (ds : List Int) (a : Int) (hz : ds.length ≤ 10000)
    (hq : ∀ (ds' : List Int) (a' : Int) (s5 : Sl), ds'.length ≤ ds.length + 60 → e.nx [s0, .ow (.lst (ds'.map .int)), s2, .va (.int a'), s4, s5, s6]) :
    dInner e [s0, .ow (.lst (ds.map .int)), s2, .va (.int a), s4, s5, s6] := by
  walk_at "dl"
  refine ⟨by decide, by decide, ?_⟩
  refine ⟨fun i ρ => ∃ (ds' : List Int) (a' : Int) (s5 : Sl), ρ = [s0, .ow (.lst (ds'.map .int)), s2, .va (.int a'), s4, s5, s6] ∧ ds'.length ≤ ds.length + i, ⟨ds, a, s5, rfl, Nat.le_refl _⟩, fun i d ρ hd hP => ?_, fun ρ hP => ?_⟩
  · obtain ⟨hi, rfl⟩ := rng_get hd
    obtain ⟨ds', a', s5, rfl, hl⟩ := hP
    have hi : i < 60 := hi
    walk_at "dl"
    split
    · walk_at "dl"
      refine ⟨by decide, ?_⟩
      rw [List.length_map, ints_snoc]
      refine ⟨Nat.lt_of_le_of_lt (show ds'.length ≤ 20000 by omega) (by decide), cdivw (by decide) (bt_lit (by decide)) (by decide), _, _, _, rfl, ?_⟩
      rw [List.length_append]
      show ds'.length + 1 ≤ _
      omega
    · walk_at "dl"
      exact ⟨ds', a', _, rfl, by omega⟩
  · obtain ⟨ds', a', s5, rfl, hl⟩ := hP
    rw [rng_len] at hl
    exact hq ds' a' s5 hl
theorem draws_ok (ds q x) (h : sp_draws ds q x) : T__law_draws (SEr q x) (startE ["script", "draws", "cell", "number", "first", "k", "seed"] ds) := by
  obtain ⟨ns, rfl, hl, hb, h⟩ := h
  unfold T__law_draws
  walk_at "dl"
  refine ⟨fun i ρ => ∃ (ds : List Int) (s2 s3 s4 s5 s6 : Sl), ρ = [.va (.fz (ns.map .int)), .ow (.lst (ds.map .int)), s2, s3, s4, s5, s6] ∧ ds.length ≤ 64 * i, ⟨[], _, _, _, _, _, rfl, Nat.le_refl _⟩, fun i d ρ hd hP => ?_, fun ρ hP => ?_⟩
  · obtain ⟨ds, s2, s3, s4, s5, s6, rfl, hz⟩ := hP
    rw [List.getElem?_map] at hd
    obtain ⟨c, hc, rfl⟩ := Option.map_eq_some_iff.mp hd
    have hi : i < ns.length := (List.getElem?_eq_some_iff.mp hc).1
    have bc : Bt 1048576 c := hb c (List.mem_of_getElem? hc)
    walk_at "dl"
    generalize ha : (if c < 0 then -c else c) = a
    have ba : Bt 1048576 a := by
      rw [← ha]
      split
      · exact bc.neg
      · exact bc
    refine ⟨⟨by decide, by decide, by decide⟩, ?_⟩
    split
    · walk_at "dl"
      refine ⟨by walk_at "cm", by decide, ?_⟩
      have bf : Bt 64 ((a * 48271 + 11) % 2147483647) := Bt.mod (by decide) (bt_lit (by decide))
      generalize (a * 48271 + 11) % 2147483647 = f at bf ⊢
      refine ⟨by walk_at "cm", by decide, ?_⟩
      rw [List.length_map, ints_snoc]
      refine ⟨Nat.lt_of_le_of_lt (show ds.length ≤ 20000 by omega) (by decide), cdivw (by decide) (bt_lit (by decide)) (by decide), by decide, ?_⟩
      rw [List.length_map, List.length_append, ints_snoc]
      refine ⟨Nat.lt_of_le_of_lt (show ds.length + 1 ≤ 20000 by omega) (by decide), ?_⟩
      refine inner_ok _ _ _ _ _ _ _ _ ?_ fun ds' a' s5 hl' => ⟨ds', _, _, _, _, _, rfl, ?_⟩
      · simp only [List.length_append, List.length_cons, List.length_nil]
        omega
      · simp only [List.length_append, List.length_cons, List.length_nil] at hl'
        omega
    · refine inner_ok _ _ _ _ _ _ _ _ ?_ fun ds' a' s5 hl' => ⟨ds', _, _, _, _, _, rfl, ?_⟩
      · omega
      · omega
  · obtain ⟨ds, s2, s3, s4, s5, s6, rfl, hz⟩ := hP
    rw [List.length_map] at hz
    have fin : ∀ (s6 : Int), Bt 1048700 s6 → sSeq (sFor (iR1 (aCons (tK (D.int 900)) aNil)) (gVar 5)
                (sSeq
                  (sSet 6
                    (t2 fMod (tC' fInt1 (aCons (t2 fAdd (t2 fMul (tV 6) (tK (D.int 48271))) (tK (D.int 69621))) aNil))
                      (tK (D.int 2147483647))))
                  (sExpr (tAppend (tV 1) (aCons (t2 fDiv (tV 6) (tK (D.int 5))) aNil)))))
              (sRet (t1 fLRev (tV 1))) (SEr q x) [.va (.fz (ns.map .int)), .ow (.lst (ds.map .int)), s2, s3, s4, s5, .va (.int s6)] := fun s6 b6 => by
      walk_at "dl"
      refine ⟨by decide, by decide, ?_⟩
      refine ⟨fun i ρ => ∃ (ds' : List Int) (s5 : Sl) (s6 : Int), ρ = [.va (.fz (ns.map .int)), .ow (.lst (ds'.map .int)), s2, s3, s4, s5, .va (.int s6)] ∧ ds'.length ≤ ds.length + i ∧ Bt 1048700 s6, ⟨ds, s5, s6, rfl, Nat.le_refl _, b6⟩, fun i d ρ hd hP => ?_, fun ρ hP => ?_⟩
      · obtain ⟨hi, rfl⟩ := rng_get hd
        obtain ⟨ds', s5, s6, rfl, hl', b6⟩ := hP
        have hi : i < 900 := hi
        walk_at "dl"
        refine ⟨by walk_at "cm", by decide, cdivw (by decide) (bt_lit (by decide)) (by decide), ?_⟩
        rw [List.length_map, ints_snoc]
        refine ⟨Nat.lt_of_le_of_lt (show ds'.length ≤ 20000 by omega) (by decide), _, _, _, rfl, ?_, (Bt.mod (by decide) (bt_lit (by decide))).mono (by decide)⟩
        rw [List.length_append]
        show ds'.length + 1 ≤ _
        omega
      · obtain ⟨ds', s5, s6, rfl, hl', b6⟩ := hP
        (walk_at "dl"; repeat (simp only [← List.map_reverse]; walk_at "dl"))
        exact h _
    walk_at "dl"
    split
    · rename_i h0
      cases ns with
      | nil => exact absurd h0 (by decide)
      | cons n ns =>
        walk_at "dl"
        have bn : Bt 1048576 n := hb n List.mem_cons_self
        have := fin (1 + if n < 0 then -n else n) (by
          refine Bt.mono (a := 64 + 1048576 + 1) (Bt.add (bt_lit (by decide)) ?_) (by decide)
          split
          · exact bn.neg
          · exact bn)
        exact this
    · exact fin 1 ((bt_lit (by decide)).mono (by decide))
/-! _law_alike: what is the same -/
def scal : D → Bool
  | .non => true
  | .bl _ => true
  | .int _ => true
  | .str _ => true
  | _ => false
def sp_bot : PSp := fun _ _ _ => False
def sp_alike0 : PSp := fun ds q _ => ∃ v, ds = [v, v] ∧ scal v = true ∧ shD v ∧ q (.d (.bl true))
theorem eqv_self_str (x : Str) : eqD (.str x) (.str x) = true := by
  unfold eqD pyD
  simp [PyData.eqv]
theorem alike0_ok (sp ds q x) (h : sp_alike0 ds q x) : T__law_alike sp (SEr q x) (startE ["found", "due", "k"] ds) := by
  obtain ⟨v, rfl, hs, hsh, h⟩ := h
  unfold T__law_alike
  cases v with
  | non => walk_at "dl"; exact h
  | bl b => walk_at "dl"; exact h
  | int i => walk_at "dl"; exact h
  | str z =>
    walk_at "dl"
    refine ⟨hsh, hsh, ?_⟩
    rw [eqv_self_str]
    exact h
  | _ => cases hs
def sp_alike1 : PSp := fun ds q x => sp_alike0 ds q x ∨ ∃ vs, ds = [.lst vs, .lst vs] ∧ vs.length ≤ 1000 ∧ (∀ v ∈ vs, scal v = true ∧ shD v) ∧ q (.d (.bl true))
theorem sh_nil : shD (.lst []) := rfl
theorem alike1_ok (ds q x) (h : sp_alike1 ds q x) : T__law_alike sp_alike0 (SEr q x) (startE ["found", "due", "k"] ds) := by
  rcases h with h | ⟨vs, rfl, hl, hv, h⟩
  · exact alike0_ok _ ds q x h
  unfold T__law_alike
  walk_at "dl"
  have e2 : (2 : Int) ^ 62 = 4611686018427387904 := by decide
  refine ⟨by omega, by omega, ?_⟩
  refine ⟨rfl, fun i acc ρ => acc = [] ∧ ρ = [.va (.lst vs), .va (.lst vs), .no], ⟨rfl, rfl⟩, fun i d acc ρ hd hP => ?_, fun acc ρ hP => ?_⟩
  · obtain ⟨rfl, rfl⟩ := hP
    obtain ⟨hi, rfl⟩ := rng_get hd
    have hi : i < vs.length := by omega
    have g := List.getElem?_eq_getElem hi
    rw [show (0 : Int) + (i : Int) = (i : Int) by omega]
    (walk_at "dl"; repeat (simp only [atI_at (n := i) rfl g]; walk_at "dl"))
    have := hv _ (List.getElem_mem hi)
    refine ⟨_, rfl, this.1, this.2, ?_⟩
    walk_at "dl"
    rfl
  · obtain ⟨rfl, rfl⟩ := hP
    walk_at "dl"
    refine ⟨sh_nil, sh_nil, ?_⟩
    rw [show eqD (.lst []) (.lst []) = true by unfold eqD pyD pyDs; simp [PyData.eqv, PyData.eqvAll]]
    exact h
end LW

set_option Elab.async false
set_option linter.all false
set_option maxRecDepth 100000
set_option maxHeartbeats 4000000
namespace DL
open PySem PySem.Spec PyProof.Rows L2
/-! ### texts as lists of signs -/
abbrev tx (l : List Nat) : Str := ⟨l.toArray⟩
theorem tx_inj {l m : List Nat} : (tx l = tx m) = (l = m) := by
  refine propext ⟨fun h => ?_, fun h => by rw [h]⟩
  have := congrArg (fun s : Str => s.cps.toList) h
  simpa using this
theorem tx1 {c d : Nat} : (tx [c] = tx [d]) = (c = d) := by
  rw [tx_inj]
  simp
theorem signs_tx (l : List Nat) : signs (tx l) = l.map fun c => .str (tx [c]) := by
  unfold signs
  simp
theorem tx_app (l m : List Nat) : tx l ++ tx m = tx (l ++ m) := by
  show (⟨l.toArray ++ m.toArray⟩ : Str) = _
  simp
theorem tx_length (l : List Nat) : (tx l).length = l.length := by
  show l.toArray.size = _
  simp
theorem repS_tx (c k : Nat) : repS (tx [c]) k = tx (List.replicate k c) := by
  unfold repS
  refine tx_ext ?_
  simp
theorem ends_tx {l p m : List Nat} (h : l = p ++ m) : Txt.endswith (tx l) (tx m) = true := by
  subst h
  unfold Txt.endswith
  rw [StrLaws.subAt_eq, tx_length, tx_length, List.length_append]
  have : p.length + m.length - m.length = p.length := by omega
  rw [this]
  simp
theorem cut_tx {l : List Nat} {k : Nat} (h : k ≤ l.length) : cutS (tx l) none (some (k : Int)) = tx (l.take k) := by
  unfold cutS
  rw [HT.sIx_none, HT.sIx_nat, tx_length, Nat.min_eq_left h]
  refine tx_ext ?_
  simp
theorem join_tx : ∀ (cs : List Nat), Str.join (tx []) (cs.map fun c => tx [c]) = tx cs
  | [] => rfl
  | [c] => rfl
  | c :: d :: r => by
    show tx [c] ++ tx [] ++ Str.join (tx []) ((d :: r).map fun c => tx [c]) = _
    rw [join_tx (d :: r), tx_app, tx_app]
    rfl
/-- plain signs -/
def Lo (l : List Nat) : Prop := ∀ x ∈ l, x < 1000
theorem shT {l : List Nat} (h : Lo l) : shD (.str (tx l)) = True := by
  refine eq_true ?_
  unfold shD pyD SeqAt.shaped
  simp only [PyData.canLay0, PyData.depth]
  unfold PyData.strOk
  simp
  exact fun x hx => Nat.lt_trans (h x hx) (by decide)
theorem Lo.app {l m : List Nat} (a : Lo l) (b : Lo m) : Lo (l ++ m) := fun x hx => (List.mem_append.mp hx).elim (a x) (b x)
theorem Lo.one {c : Nat} (h : c < 1000) : Lo [c] := fun x hx => by rw [List.mem_singleton] at hx; omega
theorem Lo.rep {k c : Nat} (h : c < 1000) : Lo (List.replicate k c) := fun x hx => by rw [(List.mem_replicate.mp hx).2]; exact h
theorem Lo.nil : Lo [] := fun x hx => nomatch hx
theorem Lo.get {l : List Nat} {i c : Nat} (h : Lo l) (e : l[i]? = some c) : c < 1000 := h c (List.mem_of_getElem? e)
theorem eqS (x y : Str) : eqD (.str x) (.str y) = decide (x = y) := by
  unfold eqD pyD PyData.eqv
  exact Bool.beq_eq_decide_eq x y
/-! dicts -/
theorem valD_put (kds : List (Key × D)) (k j : Key) (d : D) : valD (putD kds k d) j = if j = k then some d else valD kds j := by
  unfold putD
  by_cases h : kds.any (fun kv => decide (kv.1 = k)) = true
  · rw [if_pos h]
    induction kds with
    | nil => cases h
    | cons a t ih =>
      unfold valD at ih ⊢
      rw [List.map_cons, List.find?_cons, List.find?_cons]
      by_cases e : a.1 = k
      · rw [if_pos e]
        by_cases ej : a.1 = j
        · rw [show decide ((a.1, d).1 = j) = true from decide_eq_true ej, if_pos (ej.symm.trans e)]
          rfl
        · rw [show decide ((a.1, d).1 = j) = false from decide_eq_false ej, if_neg (fun z => ej (e.trans z.symm))]
          by_cases h2 : t.any (fun kv => decide (kv.1 = k)) = true
          · have := ih h2
            rwa [if_neg (fun z => ej (e.trans z.symm))] at this
          · have : (t.map fun kv => if kv.1 = k then (kv.1, d) else kv) = t := by
              refine (List.map_congr_left fun kv hk => ?_).trans (List.map_id t)
              rw [if_neg]
              · rfl
              · intro z
                exact h2 (List.any_eq_true.mpr ⟨kv, hk, decide_eq_true z⟩)
            rw [this]
      · rw [if_neg e]
        have h2 : t.any (fun kv => decide (kv.1 = k)) = true := by
          rw [List.any_cons, show decide (a.1 = k) = false from decide_eq_false e, Bool.false_or] at h
          exact h
        by_cases ej : a.1 = j
        · rw [show decide (a.1 = j) = true from decide_eq_true ej, if_neg (fun z => e (ej.trans z))]
        · rw [show decide (a.1 = j) = false from decide_eq_false ej]
          exact ih h2
  · rw [if_neg h]
    have hn : valD kds k = none := by
      unfold valD
      rw [List.find?_eq_none.mpr fun kv hk z => h (List.any_eq_true.mpr ⟨kv, hk, z⟩)]
      rfl
    unfold valD at hn ⊢
    rw [List.find?_append]
    by_cases ej : j = k
    · subst ej
      rw [if_pos rfl]
      cases hf : kds.find? fun kv => decide (kv.1 = j) with
      | none => simp
      | some z => rw [hf] at hn; cases hn
    · rw [if_neg ej]
      cases hf : kds.find? fun kv => decide (kv.1 = j) with
      | some z => rfl
      | none =>
        have : decide (k = j) = false := decide_eq_false fun z => ej z.symm
        simp [this]
theorem putD_len (kds : List (Key × D)) (k : Key) (d : D) : (putD kds k d).length ≤ kds.length + 1 := by
  unfold putD
  split
  · rw [List.length_map]; omega
  · rw [List.length_append]; exact Nat.le_refl _
end DL

set_option Elab.async false
set_option linter.all false
set_option maxRecDepth 100000
set_option maxHeartbeats 4000000
namespace LW
open PySem PySem.Spec PyProof.Rows L2 DL
/-! _law_alike at any depth -/
def okA : Nat → D → Prop
  | 0, v => scal v = true ∧ shD v
  | n + 1, v => okA n v ∨ ∃ vs, (v = .lst vs ∨ v = .tup vs) ∧ vs.length ≤ 1000 ∧ ∀ u ∈ vs, okA n u
theorem okA_up {v : D} {n : Nat} (h : okA n v) : okA (n + 1) v := .inl h
theorem okA_0 {v : D} (h : scal v = true ∧ shD v) : ∀ n, okA n v
  | 0 => h
  | n + 1 => .inl (okA_0 h n)
theorem okA_i {i : Int} {n : Nat} : okA n (.int i) := okA_0 (v := .int i) ⟨rfl, rfl⟩ n
theorem okA_b {i : Bool} {n : Nat} : okA n (.bl i) := okA_0 (v := .bl i) ⟨rfl, rfl⟩ n
theorem okA_n {n : Nat} : okA n .non := okA_0 (v := .non) ⟨rfl, rfl⟩ n
theorem okA_s {x : Str} {n : Nat} (h : shD (.str x)) : okA n (.str x) := okA_0 ⟨rfl, h⟩ n
theorem okA_lst {vs : List D} {n : Nat} (hl : vs.length ≤ 1000) (h : ∀ u ∈ vs, okA n u) : okA (n + 1) (.lst vs) := .inr ⟨vs, .inl rfl, hl, h⟩
theorem okA_tup {vs : List D} {n : Nat} (hl : vs.length ≤ 1000) (h : ∀ u ∈ vs, okA n u) : okA (n + 1) (.tup vs) := .inr ⟨vs, .inr rfl, hl, h⟩
theorem okL_nil {n : Nat} : ∀ u ∈ ([] : List D), okA n u := fun _ h => nomatch h
theorem okL_cons {n : Nat} {a : D} {l : List D} (h : okA n a) (t : ∀ u ∈ l, okA n u) : ∀ u ∈ a :: l, okA n u := fun u hu => by
  rcases List.mem_cons.mp hu with rfl | hu
  · exact h
  · exact t u hu
def sp_alikeN (n : Nat) : PSp := fun ds q _ => ∃ v, ds = [v, v] ∧ okA n v ∧ q (.d (.bl true))
theorem alikeN0_ok (sp ds q x) (h : sp_alikeN 0 ds q x) : T__law_alike sp (SEr q x) (startE ["found", "due", "k"] ds) := by
  obtain ⟨v, rfl, ⟨a, b⟩, h⟩ := h
  exact alike0_ok sp _ q x ⟨v, rfl, a, b, h⟩
theorem eq_nil : eqD (.lst []) (.lst []) = true := by
  unfold eqD pyD pyDs
  simp [PyData.eqv, PyData.eqvAll]
theorem alikeN_ok (n : Nat) : ∀ (m : Nat), m ≤ n + 1 → ∀ (ds q x) (h : sp_alikeN m ds q x), T__law_alike (sp_alikeN n) (SEr q x) (startE ["found", "due", "k"] ds)
  | 0, _, ds, q, x, h => alikeN0_ok _ ds q x h
  | m + 1, hm, ds, q, x, h => by
    obtain ⟨v, rfl, h0 | ⟨vs, hv, hl, hv2⟩, h⟩ := h
    · exact alikeN_ok n m (by omega) _ q x ⟨v, rfl, h0, h⟩
    have up : ∀ k, m + k = n → ∀ u ∈ vs, okA n u := fun k hk => by
      subst hk
      induction k with
      | zero => exact hv2
      | succ k ih => exact fun u hu => okA_up (ih (by omega) u hu)
    have hv2 := up (n - m) (by omega)
    have e2 : (2 : Int) ^ 62 = 4611686018427387904 := by decide
    rcases hv with rfl | rfl
    all_goals
      unfold T__law_alike
      walk_at "dl"
      refine ⟨by omega, by omega, ?_⟩
    · refine ⟨rfl, fun i acc ρ => acc = [] ∧ ρ = [.va (.lst vs), .va (.lst vs), .no], ⟨rfl, rfl⟩, fun i d acc ρ hd hP => ?_, fun acc ρ hP => ?_⟩
      · obtain ⟨rfl, rfl⟩ := hP
        obtain ⟨hi, rfl⟩ := rng_get hd
        have hi : i < vs.length := by omega
        have g := List.getElem?_eq_getElem hi
        rw [show (0 : Int) + (i : Int) = (i : Int) by omega]
        (walk_at "dl"; repeat (simp only [atI_at (n := i) rfl g]; walk_at "dl"))
        refine ⟨_, rfl, hv2 _ (List.getElem_mem hi), ?_⟩
        walk_at "dl"
        rfl
      · obtain ⟨rfl, rfl⟩ := hP
        walk_at "dl"
        refine ⟨sh_nil, sh_nil, ?_⟩
        rw [eq_nil]
        exact h
    · refine ⟨rfl, fun i acc ρ => acc = [] ∧ ρ = [.va (.tup vs), .va (.tup vs), .no], ⟨rfl, rfl⟩, fun i d acc ρ hd hP => ?_, fun acc ρ hP => ?_⟩
      · obtain ⟨rfl, rfl⟩ := hP
        obtain ⟨hi, rfl⟩ := rng_get hd
        have hi : i < vs.length := by omega
        have g := List.getElem?_eq_getElem hi
        rw [show (0 : Int) + (i : Int) = (i : Int) by omega]
        (walk_at "dl"; repeat (simp only [atI_at (n := i) rfl g]; walk_at "dl"))
        refine ⟨_, rfl, hv2 _ (List.getElem_mem hi), ?_⟩
        walk_at "dl"
        rfl
      · obtain ⟨rfl, rfl⟩ := hP
        walk_at "dl"
        refine ⟨sh_nil, sh_nil, ?_⟩
        rw [eq_nil]
        exact h
end LW

set_option Elab.async false
set_option linter.all false
set_option maxRecDepth 100000
set_option maxHeartbeats 4000000
namespace K81
open PySem PySem.Spec PyProof.Rows L2 DL
/-! ### presses: the mathematics -/
def pc (b : Nat) : List Nat := if b % 2 = 0 then [68] else [68, 77]
def F (a b : Nat) : Nat := if h : a < b ∧ 2 ≤ b then (pc b).length + F a ((b + 1) / 2) else a - b
termination_by b
decreasing_by omega
def E (a b : Nat) : Nat := if h : a < b ∧ 2 ≤ b then E a ((b + 1) / 2) else b
termination_by b
decreasing_by omega
def P (a b : Nat) : List Nat := if h : a < b ∧ 2 ≤ b then P a ((b + 1) / 2) ++ pc b else []
termination_by b
decreasing_by omega
def told (a b : Nat) : List Nat := List.replicate (a - E a b) 77 ++ P a b
theorem pc_len (b : Nat) : (pc b).length = if b % 2 = 0 then 1 else 2 := by
  unfold pc
  split <;> rfl
theorem F_gt {a b : Nat} (ha : 1 ≤ a) (h : a < b) : F a b = (pc b).length + F a ((b + 1) / 2) := by
  rw [F, dif_pos ⟨h, by omega⟩]
theorem F_le {a b : Nat} (h : b ≤ a) : F a b = a - b := by
  rw [F, dif_neg (by omega)]
theorem E_gt {a b : Nat} (ha : 1 ≤ a) (h : a < b) : E a b = E a ((b + 1) / 2) := by
  rw [E, dif_pos ⟨h, by omega⟩]
theorem E_le {a b : Nat} (h : b ≤ a) : E a b = b := by
  rw [E, dif_neg (by omega)]
theorem P_gt {a b : Nat} (ha : 1 ≤ a) (h : a < b) : P a b = P a ((b + 1) / 2) ++ pc b := by
  rw [P, dif_pos ⟨h, by omega⟩]
theorem P_le {a b : Nat} (h : b ≤ a) : P a b = [] := by
  rw [P, dif_neg (by omega)]
theorem E_bd {a : Nat} (ha : 1 ≤ a) : ∀ (n b : Nat), b ≤ n → 1 ≤ b → 1 ≤ E a b ∧ E a b ≤ a ∧ E a b ≤ b
  | 0, b, h, h1 => by omega
  | n + 1, b, h, h1 => by
    by_cases hb : a < b
    · rw [E_gt ha hb]
      obtain ⟨x, y, z⟩ := E_bd ha n ((b + 1) / 2) (by omega) (by omega)
      exact ⟨x, y, by omega⟩
    · rw [E_le (by omega)]
      omega
theorem F_eq {a : Nat} (ha : 1 ≤ a) : ∀ (n b : Nat), b ≤ n → 1 ≤ b → F a b = (a - E a b) + (P a b).length
  | 0, b, h, h1 => by omega
  | n + 1, b, h, h1 => by
    by_cases hb : a < b
    · rw [F_gt ha hb, E_gt ha hb, P_gt ha hb, F_eq ha n ((b + 1) / 2) (by omega) (by omega), List.length_append]
      omega
    · rw [F_le (by omega), E_le (by omega), P_le (by omega)]
      rfl
theorem told_len {a b : Nat} (ha : 1 ≤ a) (hb : 1 ≤ b) : (told a b).length = F a b := by
  rw [F_eq ha b b (Nat.le_refl b) hb, told, List.length_append, List.length_replicate]
theorem F_succ {a : Nat} (ha : 1 ≤ a) : ∀ (n b : Nat), b ≤ n → 1 ≤ b → F (a + 1) b ≤ F a b + 1
  | 0, b, h, h1 => by omega
  | n + 1, b, h, h1 => by
    by_cases hb : a < b
    · by_cases hb2 : a + 1 < b
      · rw [F_gt ha hb, F_gt (by omega) hb2]
        have := F_succ ha n ((b + 1) / 2) (by omega) (by omega)
        omega
      · rw [F_le (by omega : b ≤ a + 1)]
        omega
    · rw [F_le (by omega), F_le (by omega)]
      omega
/-! the pressing -/
def prs : Nat → List Nat → Option Nat
  | n, [] => some n
  | n, c :: l => if c = 68 then prs (2 * n) l else if c = 77 ∧ 1 < n then prs (n - 1) l else none
theorem prs_app : ∀ (l m : List Nat) (n : Nat), prs n (l ++ m) = (prs n l).bind fun k => prs k m
  | [], m, n => rfl
  | c :: l, m, n => by
    rw [List.cons_append, prs, prs]
    split
    · exact prs_app l m _
    · split
      · exact prs_app l m _
      · rfl
/-- all between lie from 1 to z -/
def Way (z : Nat) : Nat → List Nat → Prop
  | n, [] => 1 ≤ n ∧ n ≤ z
  | n, c :: l => (1 ≤ n ∧ n ≤ z) ∧ ((c = 68 ∧ Way z (2 * n) l) ∨ (c = 77 ∧ 1 < n ∧ Way z (n - 1) l))
theorem Way.app {z : Nat} : ∀ {l m : List Nat} {n k : Nat}, Way z n l → prs n l = some k → Way z k m → Way z n (l ++ m)
  | [], m, n, k, w, e, w2 => by cases e; exact w2
  | c :: l, m, n, k, w, e, w2 => by
    obtain ⟨w0, ⟨rfl, w⟩ | ⟨rfl, w1, w⟩⟩ := w
    · rw [prs, if_pos rfl] at e
      exact ⟨w0, .inl ⟨rfl, w.app e w2⟩⟩
    · rw [prs, if_neg (by decide), if_pos ⟨rfl, w1⟩] at e
      exact ⟨w0, .inr ⟨rfl, w1, w.app e w2⟩⟩
theorem Way.mono {z y : Nat} (h : z ≤ y) : ∀ {l : List Nat} {n : Nat}, Way z n l → Way y n l
  | [], n, w => ⟨w.1, Nat.le_trans w.2 h⟩
  | c :: l, n, w => by
    obtain ⟨w0, ⟨rfl, w⟩ | ⟨rfl, w1, w⟩⟩ := w
    · exact ⟨⟨w0.1, Nat.le_trans w0.2 h⟩, .inl ⟨rfl, w.mono h⟩⟩
    · exact ⟨⟨w0.1, Nat.le_trans w0.2 h⟩, .inr ⟨rfl, w1, w.mono h⟩⟩
theorem prs_M (z : Nat) : ∀ (k n : Nat), k < n → n ≤ z → prs n (List.replicate k 77) = some (n - k) ∧ Way z n (List.replicate k 77)
  | 0, n, h, hz => ⟨rfl, by omega, hz⟩
  | k + 1, n, h, hz => by
    obtain ⟨x, y⟩ := prs_M z k (n - 1) (by omega) (by omega)
    rw [List.replicate_succ]
    refine ⟨?_, ⟨by omega, hz⟩, .inr ⟨rfl, by omega, y⟩⟩
    rw [prs, if_neg (by decide), if_pos ⟨rfl, by omega⟩, x]
    congr 1
    omega
theorem prs_M0 : ∀ (n : Nat), 1 ≤ n → prs n (List.replicate n 77) = none
  | 0, h => by omega
  | 1, h => rfl
  | n + 2, h => by
    rw [List.replicate_succ, prs, if_neg (by decide), if_pos ⟨rfl, by omega⟩]
    exact prs_M0 (n + 1) (by omega)
theorem prs_pc {b : Nat} (h : 2 ≤ b) : prs ((b + 1) / 2) (pc b) = some b ∧ Way (b + 1) ((b + 1) / 2) (pc b) := by
  unfold pc
  split
  · refine ⟨?_, ⟨by omega, by omega⟩, .inl ⟨rfl, by omega, by omega⟩⟩
    rw [prs, if_pos rfl, prs]
    congr 1
    omega
  · refine ⟨?_, ⟨by omega, by omega⟩, .inl ⟨rfl, ⟨by omega, by omega⟩, .inr ⟨rfl, by omega, by omega, by omega⟩⟩⟩
    rw [prs, if_pos rfl, prs, if_neg (by decide), if_pos ⟨rfl, by omega⟩, prs]
    congr 1
    omega
theorem prs_P {a : Nat} (ha : 1 ≤ a) : ∀ (n b : Nat), b ≤ n → 1 ≤ b → prs (E a b) (P a b) = some b ∧ Way (max a (b + 1)) (E a b) (P a b)
  | 0, b, h, h1 => by omega
  | n + 1, b, h, h1 => by
    by_cases hb : a < b
    · obtain ⟨x, y⟩ := prs_P ha n ((b + 1) / 2) (by omega) (by omega)
      obtain ⟨x2, y2⟩ := prs_pc (b := b) (by omega)
      rw [E_gt ha hb, P_gt ha hb]
      refine ⟨?_, (y.mono (by omega)).app x (y2.mono (by omega))⟩
      rw [prs_app, x]
      exact x2
    · rw [E_le (by omega), P_le (by omega)]
      exact ⟨rfl, by omega, by omega⟩
theorem prs_told {a b : Nat} (ha : 1 ≤ a) (hb : 1 ≤ b) : prs a (told a b) = some b ∧ Way (max a (b + 1)) a (told a b) := by
  obtain ⟨e1, e2, e3⟩ := E_bd ha b b (Nat.le_refl b) hb
  obtain ⟨x, y⟩ := prs_P ha b b (Nat.le_refl b) hb
  obtain ⟨x2, y2⟩ := prs_M (max a (b + 1)) (a - E a b) a (by omega) (by omega)
  rw [show a - (a - E a b) = E a b by omega] at x2
  unfold told
  refine ⟨?_, y2.app x2 y⟩
  rw [prs_app, x2]
  exact x
theorem way_pre {z : Nat} : ∀ {l : List Nat} {n : Nat}, Way z n l → ∀ i, ∃ m, prs n (l.take i) = some m ∧ 1 ≤ m ∧ m ≤ z
  | [], n, w, i => ⟨n, by rw [List.take_nil]; rfl, w.1, w.2⟩
  | c :: l, n, w, 0 => ⟨n, rfl, w.1.1, w.1.2⟩
  | c :: l, n, w, i + 1 => by
    obtain ⟨w0, ⟨rfl, w⟩ | ⟨rfl, w1, w⟩⟩ := w
    · obtain ⟨m, e, h⟩ := way_pre w i
      exact ⟨m, by rw [List.take_succ_cons, prs, if_pos rfl, e], h⟩
    · obtain ⟨m, e, h⟩ := way_pre w i
      exact ⟨m, by rw [List.take_succ_cons, prs, if_neg (by decide), if_pos ⟨rfl, w1⟩, e], h⟩
theorem way_letters {z : Nat} : ∀ {l : List Nat} {n : Nat}, Way z n l → ∀ (i c : Nat), l[i]? = some c → c = 68 ∨ c = 77
  | [], n, w, i, c, e => by simp at e
  | x :: l, n, w, i, c, e => by
    obtain ⟨w0, ⟨rfl, w⟩ | ⟨rfl, w1, w⟩⟩ := w
    · cases i with
      | zero => exact .inl (by simpa using e.symm)
      | succ i => exact way_letters w i c (by simpa using e)
    · cases i with
      | zero => exact .inr (by simpa using e.symm)
      | succ i => exact way_letters w i c (by simpa using e)
theorem prs_bd : ∀ (l : List Nat) (n m : Nat), prs n l = some m → m ≤ n * 2 ^ l.length
  | [], n, m, e => by cases e; simp
  | c :: l, n, m, e => by
    rw [prs] at e
    rw [List.length_cons, Nat.pow_succ]
    split at e
    · have := prs_bd l _ _ e
      rw [Nat.mul_comm 2 n, Nat.mul_assoc, Nat.mul_comm 2] at this
      exact this
    · split at e
      · have := prs_bd l _ _ e
        have h2 : (n - 1) * 2 ^ l.length ≤ n * 2 ^ l.length := Nat.mul_le_mul_right _ (by omega)
        have h3 : n * 2 ^ l.length ≤ n * (2 ^ l.length * 2) := Nat.mul_le_mul_left _ (by omega)
        omega
      · cases e
/-- one sign more -/
theorem prs_snoc (l : List Nat) (n c : Nat) : prs n (l ++ [c]) = (prs n l).bind fun k => prs k [c] := prs_app l [c] n
theorem take_snoc {l : List Nat} {i c : Nat} (h : l[i]? = some c) : l.take (i + 1) = l.take i ++ [c] := by
  rw [List.take_add_one, h]
  rfl
/-- all numbers on the way are small enough -/
def Bd (n : Nat) (l : List Nat) : Prop := ∀ i m, prs n (l.take i) = some m → m < 2 ^ 200
theorem bd_way {z n : Nat} {l : List Nat} (w : Way z n l) (h : z < 2 ^ 200) : Bd n l := fun i m e => by
  obtain ⟨k, e2, _, h2⟩ := way_pre w i
  rw [e2] at e
  cases e
  omega
theorem bd_len {n : Nat} {l : List Nat} (hn : n < 2 ^ 100) (hl : l.length ≤ 100) : Bd n l := fun i m e => by
  have h1 := prs_bd _ _ _ e
  have h2 : (l.take i).length ≤ 100 := by rw [List.length_take]; omega
  have h3 : 2 ^ (l.take i).length ≤ 2 ^ 100 := Nat.pow_le_pow_right (by decide) h2
  have h4 : n * 2 ^ (l.take i).length ≤ n * 2 ^ 100 := Nat.mul_le_mul_left _ h3
  have h5 : n * 2 ^ 100 < 2 ^ 100 * 2 ^ 100 := Nat.mul_lt_mul_of_pos_right hn (by decide)
  rw [← Nat.pow_add] at h5
  exact Nat.lt_of_le_of_lt (Nat.le_trans h1 h4) h5
theorem bd_M (n k : Nat) (hn : n < 2 ^ 200) (l : List Nat) (hl : l = List.replicate k 77) : Bd n l := by
  intro i m e
  rw [hl, List.take_replicate] at e
  have : ∀ (k n m : Nat), prs n (List.replicate k 77) = some m → m ≤ n := by
    intro k
    induction k with
    | zero => intro n m e; cases e; exact Nat.le_refl _
    | succ k ih =>
      intro n m e
      rw [List.replicate_succ, prs, if_neg (by decide)] at e
      split at e
      · have := ih _ _ e; omega
      · cases e
  have := this _ _ _ e
  omega
/-! the halving, step by step -/
theorem half_step {a b0 b i : Nat} (h : b ≤ a ∨ b - 1 = (b0 - 1) / 2 ^ i) (hb : a < b) (ha : 1 ≤ a) : (b + 1) / 2 - 1 = (b0 - 1) / 2 ^ (i + 1) := by
  rcases h with h | h
  · omega
  · rw [Nat.pow_succ, ← Nat.div_div_eq_div_mul, ← h]
    omega
theorem half_end {a b0 b : Nat} (h : b ≤ a ∨ b - 1 = (b0 - 1) / 2 ^ 220) (h0 : b0 < 2 ^ 200) (ha : 1 ≤ a) : b ≤ a := by
  rcases h with h | h
  · exact h
  · rw [Nat.div_eq_of_lt (Nat.lt_of_le_of_lt (Nat.sub_le _ _) (Nat.lt_of_lt_of_le h0 (Nat.pow_le_pow_right (by decide) (by decide))))] at h
    omega
/-! the levels -/
def look : List (Nat × Nat) → Nat → Option Nat
  | [], _ => none
  | (k, v) :: r, o => if Nat.beq k o then some v else look r o
structure LS where
  mask : Nat
  seen : List (Nat × Nat)
  later : List Nat
def visit (s : Nat) (z : LS) (o : Nat) : LS := if Nat.ble 1 o && Nat.ble o 260 && !Nat.testBit z.mask o then ⟨z.mask ||| 2 ^ o, (o, s + 1) :: z.seen, o :: z.later⟩ else z
def near (s : Nat) (z : LS) (one : Nat) : LS := visit s (visit s z (2 * one)) (one - 1)
def stepL (s : Nat) (z : LS) : LS := z.later.reverse.foldl (near s) ⟨z.mask, z.seen, []⟩
def lev (a : Nat) : Nat → LS
  | 0 => ⟨2 ^ a, [(a, 0)], [a]⟩
  | s + 1 => stepL s (lev a s)
/-- the words' fewest, with fuel -/
def Ff : Nat → Nat → Nat → Nat
  | 0, a, b => a - b
  | n + 1, a, b => if Nat.blt a b then (if Nat.beq (b % 2) 0 then 1 else 2) + Ff n a ((b + 1) / 2) else a - b
theorem Ff_eq {a : Nat} (ha : 1 ≤ a) : ∀ (n b : Nat), b ≤ 2 ^ n → Ff n a b = F a b
  | 0, b, h => by
    have h : b ≤ 1 := h
    rw [F_le (by omega)]
    rfl
  | n + 1, b, h => by
    rw [Ff]
    rw [Nat.pow_succ] at h
    by_cases hb : a < b
    · have h1 : Nat.blt a b = true := Nat.blt_eq.mpr hb
      rw [if_pos h1, F_gt ha hb, Ff_eq ha n _ (by omega), pc_len]
      by_cases e : b % 2 = 0
      · rw [if_pos (Nat.beq_eq ▸ e), if_pos e]
      · rw [if_neg (fun z => e (Nat.eq_of_beq_eq_true z)), if_neg e]
    · rw [if_neg (fun z => hb (Nat.blt_eq.mp z)), F_le (by omega)]
def check (a : Nat) : Bool := let z := (lev a 200).seen
  (List.range 120).all fun b => match look z (b + 1) with
    | some v => Nat.beq v (Ff 7 a (b + 1))
    | none => false
/-- the mask tells what has been seen -/
def Mk (z : LS) : Prop := ∀ o, Nat.testBit z.mask o = (look z.seen o).isSome
theorem mk_visit {s o : Nat} {z : LS} (h : Mk z) : Mk (visit s z o) := by
  unfold visit
  split
  · intro j
    rw [Nat.testBit_or, h j, Nat.testBit_two_pow, look]
    by_cases e : o = j
    · subst e
      rw [if_pos (Nat.beq_refl o)]
      simp
    · rw [if_neg (fun z => e (Nat.eq_of_beq_eq_true z))]
      simp [e]
  · exact h
theorem mk_near {s o : Nat} {z : LS} (h : Mk z) : Mk (near s z o) := mk_visit (mk_visit h)
theorem mk_fold {s : Nat} : ∀ (l : List Nat) {z : LS}, Mk z → Mk (l.foldl (near s) z)
  | [], _, h => h
  | _ :: l, _, h => mk_fold l (mk_near h)
theorem mk_lev (a : Nat) : ∀ s, Mk (lev a s)
  | 0 => fun j => by
    show Nat.testBit (2 ^ a) j = (look [(a, 0)] j).isSome
    rw [Nat.testBit_two_pow, look]
    by_cases e : a = j
    · subst e
      rw [if_pos (Nat.beq_refl a)]
      simp
    · rw [if_neg (fun z => e (Nat.eq_of_beq_eq_true z))]
      simp [e, look]
  | s + 1 => mk_fold (z := ⟨(lev a s).mask, (lev a s).seen, []⟩) _ (mk_lev a s)
end K81

set_option Elab.async false
set_option linter.all false
set_option maxRecDepth 100000
set_option maxHeartbeats 4000000
namespace K81
open PySem PySem.Spec PyProof.Rows L2 DL
/-! ### the text: printed by gen.py -/
def topS (i : Nat) : Stmt := PySem.Challenge.pw_kiteheld_k81_whole_presses_of_a_counter.main.body.getD i (.Pass ⟨0, 0, 0, 0⟩)
/-- what the top says of names -/
structure Top (K : PySem.W.Frag) (mg : Str → Option Value) (C_KiteError C_OutOfRange C_Malformed C_NotThere C_Refused C_TooMuch : Addr) : Prop where
  b_abs : mg "abs" = none
  b_bool : mg "bool" = none
  b_int : mg "int" = none
  b_isinstance : mg "isinstance" = none
  b_len : mg "len" = none
  b_list : mg "list" = none
  b_max : mg "max" = none
  b_range : mg "range" = none
  b_reversed : mg "reversed" = none
  b_str : mg "str" = none
  b_tuple : mg "tuple" = none
  g_GREATEST : ∃ t, mg "GREATEST" = some (.int 1000000000000000000000000000000 t)
  g_MOST_TOLD : ∃ t, mg "MOST_TOLD" = some (.int 10000 t)
  x_KiteError : ErrC K mg "KiteError" C_KiteError
  x_OutOfRange : ErrC K mg "OutOfRange" C_OutOfRange
  x_Malformed : ErrC K mg "Malformed" C_Malformed
  x_NotThere : ErrC K mg "NotThere" C_NotThere
  x_Refused : ErrC K mg "Refused" C_Refused
  x_TooMuch : ErrC K mg "TooMuch" C_TooMuch
/-! is_number -/
abbrev s_is_number : Stmt := topS 8
abbrev N_is_number : List Str := ["value", "least", "most"]
abbrev p_is_number : List Str := ["value", "least", "most"]
theorem sc_is_number : FnScope N_is_number p_is_number (defScope s_is_number) := ⟨rfl, rfl, rfl, by decide +kernel, rfl, by decide +kernel, by decide +kernel⟩
def T_is_number : ST := (sRet (tAnd' (t1 (fIsi .int) (tV 0)) (tAnd' (tNot' (t1 (fIsi .bool) (tV 0))) (tCh fLe fLe (tV 1) (tV 0) (tV 2)))))
theorem d_is_number {P : Program} {w : World} {K : PySem.W.Frag} {mg : Str → Option Value} {base : Heap} {k : Nat} {C_KiteError C_OutOfRange C_Malformed C_NotThere C_Refused C_TooMuch : Addr} (Z : Top K mg C_KiteError C_OutOfRange C_Malformed C_NotThere C_Refused C_TooMuch) {fa : Addr} (cdv : Value) (A : Around) (outer : List Env) (s : Shared) (H : Hp) (E : XK)
    (hr : Room k (A.deeper (envOfC "is_number" (defScope s_is_number) s.heap.objs.size fa cdv))) :
    DSs (cxOf (L2N.CX P w) P w K mg base N_is_number "is_number" (defScope s_is_number) fa cdv A outer s H E) none (fun c d _ H => E c d H) (defBody s_is_number) (T_is_number) :=
  (dss_one (ds_ret (de_and (de_isi .int Z.b_isinstance Z.b_int (by decide +kernel) (de_v 0)) (de_and (de_not (de_isi .bool Z.b_isinstance Z.b_bool (by decide +kernel) (de_v 0))) (de_one (de_chain op_le le_ok op_le le_ok (de_v 1) (de_v 0) (de_v 2)))))))
theorem ok_is_number {P : Program} {w : World} {K : PySem.W.Frag} {mg : Str → Option Value} {base : Heap} {k : Nat} {C_KiteError C_OutOfRange C_Malformed C_NotThere C_Refused C_TooMuch : Addr} (Z : Top K mg C_KiteError C_OutOfRange C_Malformed C_NotThere C_Refused C_TooMuch) {fa : Addr} {fd : FuncData} (F : Fun K "is_number" "is_number" s_is_number fa fd) (hm : mg "is_number" = some (.ref fa)) (hb : Binds K fd p_is_number []) {sp : PSp} (len : ∀ ds q x, sp ds q x → ds.length = 3)
    (hsp : ∀ ds q x, sp ds q x → T_is_number ⟨fun _ => q (.d .non), fun r _ => q r, fun _ => False, fun _ => False, fun c _ => x c⟩ (startE N_is_number ds)) : CallD P w K mg base (k + 1) "is_number" p_is_number sp :=
  ⟨fa, fd, fn_ok F sc_is_number len (fun cdv A outer s H E hr => d_is_number Z cdv A outer s H E hr) hsp, hm, F.kp, hb⟩
/-! pressed -/
abbrev s_pressed : Stmt := topS 12
abbrev N_pressed : List Str := ["number", "presses", "letter"]
abbrev p_pressed : List Str := ["number", "presses"]
theorem sc_pressed : FnScope N_pressed p_pressed (defScope s_pressed) := ⟨rfl, rfl, rfl, by decide +kernel, rfl, by decide +kernel, by decide +kernel⟩
def T_pressed (C_Refused : Addr) : ST := (sSeq (sFor (iStrD (tV 1)) (gVar 2) (sIf (tT (t2 (fEq) (tV 2) (tK (.str "D")))) (sSet 0 (t2 fMul (tK (.int 2)) (tV 0))) (sIf (bAnd (tT (t2 (fEq) (tV 2) (tK (.str "M")))) (tT (t2 (fGt) (tV 0) (tK (.int 1))))) (sAug (fI0 fun i j => .int (i - j)) 0 (tK (.int 1))) (sRaise C_Refused))))
    (sRet (tV 0)))
theorem d_pressed {P : Program} {w : World} {K : PySem.W.Frag} {mg : Str → Option Value} {base : Heap} {k : Nat} {C_KiteError C_OutOfRange C_Malformed C_NotThere C_Refused C_TooMuch : Addr} (Z : Top K mg C_KiteError C_OutOfRange C_Malformed C_NotThere C_Refused C_TooMuch) {fa : Addr} (cdv : Value) (A : Around) (outer : List Env) (s : Shared) (H : Hp) (E : XK)
    (hr : Room k (A.deeper (envOfC "pressed" (defScope s_pressed) s.heap.objs.size fa cdv))) :
    DSs (cxOf (L2N.CX P w) P w K mg base N_pressed "pressed" (defScope s_pressed) fa cdv A outer s H E) none (fun c d _ H => E c d H) (defBody s_pressed) (T_pressed C_Refused) :=
  (dss_cons (ds_for (L2.passes_of rfl) rfl (di_str (de_v 1)) (dg_name (i := 2) sc_pressed.nd rfl (.inl rfl)) (dss_one (ds_if (db_eq hr (de_v 2) de_str) (dss_one (ds_set (i := 0) sc_pressed.nd rfl (.inl rfl) (de_mul de_int (de_v 0)))) (dss_one (ds_if (dw_and (db_eq hr (de_v 2) de_str) (dw_and1 (db_gt (de_v 0) de_int))).toB (dss_one (ds_aug (i := 0) sc_pressed.nd rfl (.inl rfl) iop_sub (rI0_ok fun _ _ _ _ => .int _) de_int)) (dss_one (ds_raise rfl (L2N.takes_of rfl rfl rfl rfl) Z.x_Refused)))))))
    (dss_one (ds_ret (de_v 0))))
theorem ok_pressed {P : Program} {w : World} {K : PySem.W.Frag} {mg : Str → Option Value} {base : Heap} {k : Nat} {C_KiteError C_OutOfRange C_Malformed C_NotThere C_Refused C_TooMuch : Addr} (Z : Top K mg C_KiteError C_OutOfRange C_Malformed C_NotThere C_Refused C_TooMuch) {fa : Addr} {fd : FuncData} (F : Fun K "pressed" "pressed" s_pressed fa fd) (hm : mg "pressed" = some (.ref fa)) (hb : Binds K fd p_pressed []) {sp : PSp} (len : ∀ ds q x, sp ds q x → ds.length = 2)
    (hsp : ∀ ds q x, sp ds q x → T_pressed C_Refused ⟨fun _ => q (.d .non), fun r _ => q r, fun _ => False, fun _ => False, fun c _ => x c⟩ (startE N_pressed ds)) : CallD P w K mg base (k + 1) "pressed" p_pressed sp :=
  ⟨fa, fd, fn_ok F sc_pressed len (fun cdv A outer s H E hr => d_pressed Z cdv A outer s H E hr) hsp, hm, F.kp, hb⟩
/-! check_numbers -/
abbrev s_check_numbers : Stmt := topS 13
abbrev N_check_numbers : List Str := ["a", "b"]
abbrev p_check_numbers : List Str := ["a", "b"]
theorem sc_check_numbers : FnScope N_check_numbers p_check_numbers (defScope s_check_numbers) := ⟨rfl, rfl, rfl, by decide +kernel, rfl, by decide +kernel, by decide +kernel⟩
def T_check_numbers (sp_is_number : PSp) (C_OutOfRange : Addr) : ST := (sIf (bOr (bNot (tTr (tCall' sp_is_number (aCons (tV 0) (aCons (tK (.int 1)) (aCons (tK (.int 1000000000000000000000000000000)) aNil)))))) (bNot (tTr (tCall' sp_is_number (aCons (tV 1) (aCons (tK (.int 1)) (aCons (tK (.int 1000000000000000000000000000000)) aNil))))))) (sRaise C_OutOfRange) sNext)
theorem d_check_numbers {P : Program} {w : World} {K : PySem.W.Frag} {mg : Str → Option Value} {base : Heap} {k : Nat} {C_KiteError C_OutOfRange C_Malformed C_NotThere C_Refused C_TooMuch : Addr} {sp_is_number : PSp} (Z : Top K mg C_KiteError C_OutOfRange C_Malformed C_NotThere C_Refused C_TooMuch) (c_is_number : CallD P w K mg base k "is_number" p_is_number sp_is_number) {fa : Addr} (cdv : Value) (A : Around) (outer : List Env) (s : Shared) (H : Hp) (E : XK)
    (hr : Room k (A.deeper (envOfC "check_numbers" (defScope s_check_numbers) s.heap.objs.size fa cdv))) :
    DSs (cxOf (L2N.CX P w) P w K mg base N_check_numbers "check_numbers" (defScope s_check_numbers) fa cdv A outer s H E) none (fun c d _ H => E c d H) (defBody s_check_numbers) (T_check_numbers sp_is_number C_OutOfRange) :=
  (dss_one (ds_if (dw_or (db_not (db_tru (de_c c_is_number (L2N.takes_of rfl rfl rfl rfl) hr (da_cons (de_v 0) (da_cons de_int (da_cons (de_gi (by rfl) Z.g_GREATEST) da_nil)))))) (dw_or1 (db_not (db_tru (de_c c_is_number (L2N.takes_of rfl rfl rfl rfl) hr (da_cons (de_v 1) (da_cons de_int (da_cons (de_gi (by rfl) Z.g_GREATEST) da_nil)))))))).toB (dss_one (ds_raise rfl (L2N.takes_of rfl rfl rfl rfl) Z.x_OutOfRange)) dss_nil))
theorem ok_check_numbers {P : Program} {w : World} {K : PySem.W.Frag} {mg : Str → Option Value} {base : Heap} {k : Nat} {C_KiteError C_OutOfRange C_Malformed C_NotThere C_Refused C_TooMuch : Addr} {sp_is_number : PSp} (Z : Top K mg C_KiteError C_OutOfRange C_Malformed C_NotThere C_Refused C_TooMuch) (c_is_number : CallD P w K mg base k "is_number" p_is_number sp_is_number) {fa : Addr} {fd : FuncData} (F : Fun K "check_numbers" "check_numbers" s_check_numbers fa fd) (hm : mg "check_numbers" = some (.ref fa)) (hb : Binds K fd p_check_numbers []) {sp : PSp} (len : ∀ ds q x, sp ds q x → ds.length = 2)
    (hsp : ∀ ds q x, sp ds q x → T_check_numbers sp_is_number C_OutOfRange ⟨fun _ => q (.d .non), fun r _ => q r, fun _ => False, fun _ => False, fun c _ => x c⟩ (startE N_check_numbers ds)) : CallD P w K mg base (k + 1) "check_numbers" p_check_numbers sp :=
  ⟨fa, fd, fn_ok F sc_check_numbers len (fun cdv A outer s H E hr => d_check_numbers Z c_is_number cdv A outer s H E hr) hsp, hm, F.kp, hb⟩
/-! fewest_presses -/
abbrev s_fewest_presses : Stmt := topS 14
abbrev N_fewest_presses : List Str := ["a", "b", "found"]
abbrev p_fewest_presses : List Str := ["a", "b"]
theorem sc_fewest_presses : FnScope N_fewest_presses p_fewest_presses (defScope s_fewest_presses) := ⟨rfl, rfl, rfl, by decide +kernel, rfl, by decide +kernel, by decide +kernel⟩
def T_fewest_presses (sp_check_numbers : PSp) : ST := (sSeq (sExpr (tCall' sp_check_numbers (aCons (tV 0) (aCons (tV 1) aNil))))
    (sSeq (sSet 2 (tK (.int 0)))
    (sSeq (sWhile (tT (t2 (fGt) (tV 1) (tV 0))) (sSeq (sAug (fI0 fun i j => .int (i + j)) 2 (tIf' (tT (t2 (fEq) (t2 fMod (tV 1) (tK (.int 2))) (tK (.int 0)))) (tK (.int 1)) (tK (.int 2))))
    (sSet 1 (t2 fDiv (t2 fAdd (tV 1) (tK (.int 1))) (tK (.int 2))))))
    (sRet (t2 fSub (t2 fAdd (tV 2) (tV 0)) (tV 1))))))
theorem d_fewest_presses {P : Program} {w : World} {K : PySem.W.Frag} {mg : Str → Option Value} {base : Heap} {k : Nat} {C_KiteError C_OutOfRange C_Malformed C_NotThere C_Refused C_TooMuch : Addr} {sp_check_numbers : PSp} (Z : Top K mg C_KiteError C_OutOfRange C_Malformed C_NotThere C_Refused C_TooMuch) (c_check_numbers : CallD P w K mg base k "check_numbers" p_check_numbers sp_check_numbers) {fa : Addr} (cdv : Value) (A : Around) (outer : List Env) (s : Shared) (H : Hp) (E : XK)
    (hr : Room k (A.deeper (envOfC "fewest_presses" (defScope s_fewest_presses) s.heap.objs.size fa cdv))) :
    DSs (cxOf (L2N.CX P w) P w K mg base N_fewest_presses "fewest_presses" (defScope s_fewest_presses) fa cdv A outer s H E) none (fun c d _ H => E c d H) (defBody s_fewest_presses) (T_fewest_presses sp_check_numbers) :=
  (dss_cons (ds_expr (de_c c_check_numbers (L2N.takes_of rfl rfl rfl rfl) hr (da_cons (de_v 0) (da_cons (de_v 1) da_nil))))
    (dss_cons (ds_set (i := 2) sc_fewest_presses.nd rfl (.inl rfl) de_int)
    (dss_cons (ds_while (L2.passes_of rfl) (db_gt (de_v 1) (de_v 0)) (dss_cons (ds_aug (i := 2) sc_fewest_presses.nd rfl (.inl rfl) iop_add (rI0_ok fun _ _ _ _ => .int _) (de_if (db_eq hr (de_mod (de_v 1) de_int) de_int) de_int de_int))
    (dss_one (ds_set (i := 1) sc_fewest_presses.nd rfl (.inl rfl) (de_div (de_add (de_v 1) de_int) de_int)))))
    (dss_one (ds_ret (de_sub (de_add (de_v 2) (de_v 0)) (de_v 1)))))))
theorem ok_fewest_presses {P : Program} {w : World} {K : PySem.W.Frag} {mg : Str → Option Value} {base : Heap} {k : Nat} {C_KiteError C_OutOfRange C_Malformed C_NotThere C_Refused C_TooMuch : Addr} {sp_check_numbers : PSp} (Z : Top K mg C_KiteError C_OutOfRange C_Malformed C_NotThere C_Refused C_TooMuch) (c_check_numbers : CallD P w K mg base k "check_numbers" p_check_numbers sp_check_numbers) {fa : Addr} {fd : FuncData} (F : Fun K "fewest_presses" "fewest_presses" s_fewest_presses fa fd) (hm : mg "fewest_presses" = some (.ref fa)) (hb : Binds K fd p_fewest_presses []) {sp : PSp} (len : ∀ ds q x, sp ds q x → ds.length = 2)
    (hsp : ∀ ds q x, sp ds q x → T_fewest_presses sp_check_numbers ⟨fun _ => q (.d .non), fun r _ => q r, fun _ => False, fun _ => False, fun c _ => x c⟩ (startE N_fewest_presses ds)) : CallD P w K mg base (k + 1) "fewest_presses" p_fewest_presses sp :=
  ⟨fa, fd, fn_ok F sc_fewest_presses len (fun cdv A outer s H E hr => d_fewest_presses Z c_check_numbers cdv A outer s H E hr) hsp, hm, F.kp, hb⟩
/-! told_presses -/
abbrev s_told_presses : Stmt := topS 15
abbrev N_told_presses : List Str := ["a", "b", "found"]
abbrev p_told_presses : List Str := ["a", "b"]
theorem sc_told_presses : FnScope N_told_presses p_told_presses (defScope s_told_presses) := ⟨rfl, rfl, rfl, by decide +kernel, rfl, by decide +kernel, by decide +kernel⟩
def T_told_presses (sp_fewest_presses : PSp) (C_TooMuch : Addr) : ST := (sSeq (sIf (tT (t2 (fGt) (tCall' sp_fewest_presses (aCons (tV 0) (aCons (tV 1) aNil))) (tK (.int 10000)))) (sRaise C_TooMuch) sNext)
    (sSeq (sSet 2 (tK (.str "")))
    (sSeq (sWhile (tT (t2 (fGt) (tV 1) (tV 0))) (sSeq (sSet 2 (t2 fAdd (tIf' (tT (t2 (fEq) (t2 fMod (tV 1) (tK (.int 2))) (tK (.int 0)))) (tK (.str "D")) (tK (.str "DM"))) (tV 2)))
    (sSet 1 (t2 fDiv (t2 fAdd (tV 1) (tK (.int 1))) (tK (.int 2))))))
    (sRet (t2 fAdd (t2 fMulS (tK (.str "M")) (t2 fSub (tV 0) (tV 1))) (tV 2))))))
theorem d_told_presses {P : Program} {w : World} {K : PySem.W.Frag} {mg : Str → Option Value} {base : Heap} {k : Nat} {C_KiteError C_OutOfRange C_Malformed C_NotThere C_Refused C_TooMuch : Addr} {sp_fewest_presses : PSp} (Z : Top K mg C_KiteError C_OutOfRange C_Malformed C_NotThere C_Refused C_TooMuch) (c_fewest_presses : CallD P w K mg base k "fewest_presses" p_fewest_presses sp_fewest_presses) {fa : Addr} (cdv : Value) (A : Around) (outer : List Env) (s : Shared) (H : Hp) (E : XK)
    (hr : Room k (A.deeper (envOfC "told_presses" (defScope s_told_presses) s.heap.objs.size fa cdv))) :
    DSs (cxOf (L2N.CX P w) P w K mg base N_told_presses "told_presses" (defScope s_told_presses) fa cdv A outer s H E) none (fun c d _ H => E c d H) (defBody s_told_presses) (T_told_presses sp_fewest_presses C_TooMuch) :=
  (dss_cons (ds_if (db_gt (de_c c_fewest_presses (L2N.takes_of rfl rfl rfl rfl) hr (da_cons (de_v 0) (da_cons (de_v 1) da_nil))) (de_gi (by rfl) Z.g_MOST_TOLD)) (dss_one (ds_raise rfl (L2N.takes_of rfl rfl rfl rfl) Z.x_TooMuch)) dss_nil)
    (dss_cons (ds_set (i := 2) sc_told_presses.nd rfl (.inl rfl) de_str)
    (dss_cons (ds_while (L2.passes_of rfl) (db_gt (de_v 1) (de_v 0)) (dss_cons (ds_set (i := 2) sc_told_presses.nd rfl (.inl rfl) (de_add (de_if (db_eq hr (de_mod (de_v 1) de_int) de_int) de_str de_str) (de_v 2)))
    (dss_one (ds_set (i := 1) sc_told_presses.nd rfl (.inl rfl) (de_div (de_add (de_v 1) de_int) de_int)))))
    (dss_one (ds_ret (de_add (de_mulS de_str (de_sub (de_v 0) (de_v 1))) (de_v 2)))))))
theorem ok_told_presses {P : Program} {w : World} {K : PySem.W.Frag} {mg : Str → Option Value} {base : Heap} {k : Nat} {C_KiteError C_OutOfRange C_Malformed C_NotThere C_Refused C_TooMuch : Addr} {sp_fewest_presses : PSp} (Z : Top K mg C_KiteError C_OutOfRange C_Malformed C_NotThere C_Refused C_TooMuch) (c_fewest_presses : CallD P w K mg base k "fewest_presses" p_fewest_presses sp_fewest_presses) {fa : Addr} {fd : FuncData} (F : Fun K "told_presses" "told_presses" s_told_presses fa fd) (hm : mg "told_presses" = some (.ref fa)) (hb : Binds K fd p_told_presses []) {sp : PSp} (len : ∀ ds q x, sp ds q x → ds.length = 2)
    (hsp : ∀ ds q x, sp ds q x → T_told_presses sp_fewest_presses C_TooMuch ⟨fun _ => q (.d .non), fun r _ => q r, fun _ => False, fun _ => False, fun c _ => x c⟩ (startE N_told_presses ds)) : CallD P w K mg base (k + 1) "told_presses" p_told_presses sp :=
  ⟨fa, fd, fn_ok F sc_told_presses len (fun cdv A outer s H E hr => d_told_presses Z c_fewest_presses cdv A outer s H E hr) hsp, hm, F.kp, hb⟩
/-! _law_draws -/
abbrev s__law_draws : Stmt := topS 17
abbrev N__law_draws : List Str := ["script", "draws", "cell", "number", "first", "k", "seed"]
abbrev p__law_draws : List Str := ["script"]
theorem sc__law_draws : FnScope N__law_draws p__law_draws (defScope s__law_draws) := ⟨rfl, rfl, rfl, by decide +kernel, rfl, by decide +kernel, by decide +kernel⟩
def T__law_draws : ST := (sSeq (sSet 1 (tLst' aNil))
    (sSeq (sFor (iSeqD (tV 0)) (gVar 2) (sSeq (sSet 3 (tC' fAbs (aCons (tV 2) aNil)))
    (sSeq (sIf (tT (t2 (fLt) (tV 3) (t2 fPow (tK (.int 10)) (tK (.int 18))))) (sSeq (sSet 4 (t2 fMod (tC' fInt1 (aCons (t2 fAdd (t2 fMul (tV 3) (tK (.int 48271))) (tK (.int 11))) aNil)) (tK (.int 2147483647))))
    (sSeq (sExpr (tAppend (tV 1) (aCons (t2 fMod (tC' fInt1 (aCons (t2 fAdd (t2 fMul (tV 4) (tK (.int 69621))) (tV 3)) aNil)) (tK (.int 2147483629))) aNil)))
    (sSeq (sExpr (tAppend (tV 1) (aCons (t2 fMod (tC' fInt1 (aCons (t2 fAdd (tV 4) (t2 fDiv (tV 3) (tK (.int 7)))) aNil)) (tK (.int 1000003))) aNil)))
    (sSet 3 (tK (.int 0)))))) sNext)
    (sFor (iR1 (aCons (tK (.int 60)) aNil)) (gVar 5) (sIf (tT (t2 (fGt) (tV 3) (tK (.int 0)))) (sSeq (sExpr (tAppend (tV 1) (aCons (t2 fMod (tC' fInt1 (aCons (tV 3) aNil)) (tK (.int 997))) aNil)))
    (sSet 3 (t2 fDiv (tV 3) (tK (.int 997))))) sNext)))))
    (sSeq (sSet 6 (tK (.int 1)))
    (sSeq (sIf (tT (t2 (fGt) (tC' fLen (aCons (tV 0) aNil)) (tK (.int 0)))) (sSet 6 (t2 fAdd (tK (.int 1)) (tC' fAbs (aCons (t2 fIx (tV 0) (tK (.int 0))) aNil)))) sNext)
    (sSeq (sFor (iR1 (aCons (tK (.int 900)) aNil)) (gVar 5) (sSeq (sSet 6 (t2 fMod (tC' fInt1 (aCons (t2 fAdd (t2 fMul (tV 6) (tK (.int 48271))) (tK (.int 69621))) aNil)) (tK (.int 2147483647))))
    (sExpr (tAppend (tV 1) (aCons (t2 fDiv (tV 6) (tK (.int 5))) aNil)))))
    (sRet (t1 fLRev (tV 1))))))))
theorem d__law_draws {P : Program} {w : World} {K : PySem.W.Frag} {mg : Str → Option Value} {base : Heap} {k : Nat} {C_KiteError C_OutOfRange C_Malformed C_NotThere C_Refused C_TooMuch : Addr} (Z : Top K mg C_KiteError C_OutOfRange C_Malformed C_NotThere C_Refused C_TooMuch) {fa : Addr} (cdv : Value) (A : Around) (outer : List Env) (s : Shared) (H : Hp) (E : XK)
    (hr : Room k (A.deeper (envOfC "_law_draws" (defScope s__law_draws) s.heap.objs.size fa cdv))) :
    DSs (cxOf (L2N.CX P w) P w K mg base N__law_draws "_law_draws" (defScope s__law_draws) fa cdv A outer s H E) none (fun c d _ H => E c d H) (defBody s__law_draws) (T__law_draws) :=
  (dss_cons (ds_set (i := 1) sc__law_draws.nd rfl (.inl rfl) (de_lst da_nil))
    (dss_cons (ds_for (L2.passes_of rfl) rfl (di_seq (de_v 0)) (dg_name (i := 2) sc__law_draws.nd rfl (.inl rfl)) (dss_cons (ds_set (i := 3) sc__law_draws.nd rfl (.inl rfl) (de_abs Z.b_abs (de_v 2)))
    (dss_cons (ds_if (db_lt (de_v 3) (de_pow de_int de_int)) (dss_cons (ds_set (i := 4) sc__law_draws.nd rfl (.inl rfl) (de_mod (de_int1 Z.b_int (de_add (de_mul (de_v 3) de_int) de_int)) de_int))
    (dss_cons (ds_expr (de_append (de_v 1) (da_cons (de_mod (de_int1 Z.b_int (de_add (de_mul (de_v 4) de_int) (de_v 3))) de_int) da_nil)))
    (dss_cons (ds_expr (de_append (de_v 1) (da_cons (de_mod (de_int1 Z.b_int (de_add (de_v 4) (de_div (de_v 3) de_int))) de_int) da_nil)))
    (dss_one (ds_set (i := 3) sc__law_draws.nd rfl (.inl rfl) de_int))))) dss_nil)
    (dss_one (ds_for (L2.passes_of rfl) rfl (di_range1 Z.b_range (da_cons de_int da_nil)) (dg_name (i := 5) sc__law_draws.nd rfl (.inl rfl)) (dss_one (ds_if (db_gt (de_v 3) de_int) (dss_cons (ds_expr (de_append (de_v 1) (da_cons (de_mod (de_int1 Z.b_int (de_v 3)) de_int) da_nil)))
    (dss_one (ds_set (i := 3) sc__law_draws.nd rfl (.inl rfl) (de_div (de_v 3) de_int)))) dss_nil)))))))
    (dss_cons (ds_set (i := 6) sc__law_draws.nd rfl (.inl rfl) de_int)
    (dss_cons (ds_if (db_gt (de_len Z.b_len (de_v 0)) de_int) (dss_one (ds_set (i := 6) sc__law_draws.nd rfl (.inl rfl) (de_add de_int (de_abs Z.b_abs (de_ix (de_v 0) de_int (fun _ _ => rfl)))))) dss_nil)
    (dss_cons (ds_for (L2.passes_of rfl) rfl (di_range1 Z.b_range (da_cons de_int da_nil)) (dg_name (i := 5) sc__law_draws.nd rfl (.inl rfl)) (dss_cons (ds_set (i := 6) sc__law_draws.nd rfl (.inl rfl) (de_mod (de_int1 Z.b_int (de_add (de_mul (de_v 6) de_int) de_int)) de_int))
    (dss_one (ds_expr (de_append (de_v 1) (da_cons (de_div (de_v 6) de_int) da_nil))))))
    (dss_one (ds_ret (de_lrev rfl Z.b_list Z.b_reversed (de_v 1)))))))))
theorem ok__law_draws {P : Program} {w : World} {K : PySem.W.Frag} {mg : Str → Option Value} {base : Heap} {k : Nat} {C_KiteError C_OutOfRange C_Malformed C_NotThere C_Refused C_TooMuch : Addr} (Z : Top K mg C_KiteError C_OutOfRange C_Malformed C_NotThere C_Refused C_TooMuch) {fa : Addr} {fd : FuncData} (F : Fun K "_law_draws" "_law_draws" s__law_draws fa fd) (hm : mg "_law_draws" = some (.ref fa)) (hb : Binds K fd p__law_draws []) {sp : PSp} (len : ∀ ds q x, sp ds q x → ds.length = 1)
    (hsp : ∀ ds q x, sp ds q x → T__law_draws ⟨fun _ => q (.d .non), fun r _ => q r, fun _ => False, fun _ => False, fun c _ => x c⟩ (startE N__law_draws ds)) : CallD P w K mg base (k + 1) "_law_draws" p__law_draws sp :=
  ⟨fa, fd, fn_ok F sc__law_draws len (fun cdv A outer s H E hr => d__law_draws Z cdv A outer s H E hr) hsp, hm, F.kp, hb⟩
/-! _law_take -/
abbrev s__law_take : Stmt := topS 18
abbrev N__law_take : List Str := ["draws", "bound"]
abbrev p__law_take : List Str := ["draws", "bound"]
theorem sc__law_take : FnScope N__law_take p__law_take (defScope s__law_take) := ⟨rfl, rfl, rfl, by decide +kernel, rfl, by decide +kernel, by decide +kernel⟩
def T__law_take : ST := (sSeq (sIf (tT (t2 (fEq) (tC' fLen (aCons (tV 0) aNil)) (tK (.int 0)))) (sRet (tK (.int 0))) sNext)
    (sRet (t2 fMod (tC' fInt1 (aCons (tPop (tV 0)) aNil)) (tV 1))))
theorem d__law_take {P : Program} {w : World} {K : PySem.W.Frag} {mg : Str → Option Value} {base : Heap} {k : Nat} {C_KiteError C_OutOfRange C_Malformed C_NotThere C_Refused C_TooMuch : Addr} (Z : Top K mg C_KiteError C_OutOfRange C_Malformed C_NotThere C_Refused C_TooMuch) {fa : Addr} (p : Addr) (cdv : Value) (A : Around) (outer : List Env) (s : Shared) (H : Hp) (E : XK)
    (hr : Room k (A.deeper (envOfC "_law_take" (defScope s__law_take) s.heap.objs.size fa cdv))) :
    DSs (cxOf (L2N.CX P w) P w K mg base N__law_take "_law_take" (defScope s__law_take) fa cdv A outer s H E) (some p) (fun c d _ H => E c d H) (defBody s__law_take) (T__law_take) :=
  (dss_cons (ds_if (db_eq hr (de_len Z.b_len (de_v 0)) de_int) (dss_one (ds_ret de_int)) dss_nil)
    (dss_one (ds_ret (de_mod (de_int1 Z.b_int (de_pop (de_v 0))) (de_v 1)))))
theorem ok__law_take {P : Program} {w : World} {K : PySem.W.Frag} {mg : Str → Option Value} {base : Heap} {k : Nat} {C_KiteError C_OutOfRange C_Malformed C_NotThere C_Refused C_TooMuch : Addr} (Z : Top K mg C_KiteError C_OutOfRange C_Malformed C_NotThere C_Refused C_TooMuch) {fa : Addr} {fd : FuncData} (F : Fun K "_law_take" "_law_take" s__law_take fa fd) (hm : mg "_law_take" = some (.ref fa)) (hb : Binds K fd p__law_take []) {sp : PSpIO} (len : ∀ d ds q x, sp d ds q x → ds.length + 1 = 2)
    (hsp : ∀ d ds q x, sp d ds q x → T__law_take ⟨fun ρ => some! (ioS ρ[0]?) fun y => q (.d .non) y, fun r ρ => some! (ioS ρ[0]?) fun y => q r y, fun _ => False, fun _ => False, fun c ρ => some! (ioS ρ[0]?) fun y => x c y⟩ (startIO N__law_take d ds)) : CallIO P w K mg base (k + 1) "_law_take" p__law_take sp :=
  ⟨fa, fd, fn_okIO F sc__law_take len (fun p cdv A outer s H E hr => d__law_take Z p cdv A outer s H E hr) hsp, hm, F.kp, hb⟩
/-! _law_alike -/
abbrev s__law_alike : Stmt := topS 19
abbrev N__law_alike : List Str := ["found", "due", "k"]
abbrev p__law_alike : List Str := ["found", "due"]
theorem sc__law_alike : FnScope N__law_alike p__law_alike (defScope s__law_alike) := ⟨rfl, rfl, rfl, by decide +kernel, rfl, by decide +kernel, by decide +kernel⟩
def T__law_alike (sp__law_alike : PSp) : ST := (sSeq (sIf (bOr (tTr (t1 (fIsi .list) (tV 1))) (tTr (t1 (fIsi .tuple) (tV 1)))) (sSeq (sIf (bOr (tT (t2 (fNe) (t1 (fIsi .list) (tV 0)) (t1 (fIsi .list) (tV 1)))) (tT (t2 (fNe) (t1 (fIsi .tuple) (tV 0)) (t1 (fIsi .tuple) (tV 1))))) (sRet (tK (.bl false))) sNext)
    (sRet (tAnd' (t2 (fEq) (tC' fLen (aCons (tV 0) aNil)) (tC' fLen (aCons (tV 1) aNil))) (t2 (fEq) (tLc' (iR1 (aCons (tC' fLen (aCons (tV 1) aNil)) aNil)) (gVar 2) (bNot (tTr (tCall' sp__law_alike (aCons (t2 fIx (tV 0) (tV 2)) (aCons (t2 fIx (tV 1) (tV 2)) aNil))))) (tV 2) [2]) (tLst' aNil))))) sNext)
    (sSeq (sIf (tT (t2 (fIs false) (tV 1) (tK .non))) (sRet (t2 (fIs false) (tV 0) (tK .non))) sNext)
    (sSeq (sIf (bOr (tTr (t1 (fIsi .bool) (tV 1))) (tTr (t1 (fIsi .bool) (tV 0)))) (sRet (tAnd' (t1 (fIsi .bool) (tV 0)) (tAnd' (t1 (fIsi .bool) (tV 1)) (t2 (fEq) (tV 0) (tV 1))))) sNext)
    (sSeq (sIf (tTr (t1 (fIsi .int) (tV 1))) (sRet (tAnd' (t1 (fIsi .int) (tV 0)) (t2 (fEq) (tV 0) (tV 1)))) sNext)
    (sRet (tAnd' (t1 (fIsi .str) (tV 0)) (t2 (fEq) (tV 0) (tV 1))))))))
theorem d__law_alike {P : Program} {w : World} {K : PySem.W.Frag} {mg : Str → Option Value} {base : Heap} {k : Nat} {C_KiteError C_OutOfRange C_Malformed C_NotThere C_Refused C_TooMuch : Addr} {sp__law_alike : PSp} (Z : Top K mg C_KiteError C_OutOfRange C_Malformed C_NotThere C_Refused C_TooMuch) (c__law_alike : CallD P w K mg base k "_law_alike" p__law_alike sp__law_alike) {fa : Addr} (cdv : Value) (A : Around) (outer : List Env) (s : Shared) (H : Hp) (E : XK)
    (hr : Room k (A.deeper (envOfC "_law_alike" (defScope s__law_alike) s.heap.objs.size fa cdv))) :
    DSs (cxOf (L2N.CX P w) P w K mg base N__law_alike "_law_alike" (defScope s__law_alike) fa cdv A outer s H E) none (fun c d _ H => E c d H) (defBody s__law_alike) (T__law_alike sp__law_alike) :=
  (dss_cons (ds_if (dw_or (db_tru (de_isi .list Z.b_isinstance Z.b_list (by decide +kernel) (de_v 1))) (dw_or1 (db_tru (de_isi .tuple Z.b_isinstance Z.b_tuple (by decide +kernel) (de_v 1))))).toB (dss_cons (ds_if (dw_or (db_ne hr (de_isi .list Z.b_isinstance Z.b_list (by decide +kernel) (de_v 0)) (de_isi .list Z.b_isinstance Z.b_list (by decide +kernel) (de_v 1))) (dw_or1 (db_ne hr (de_isi .tuple Z.b_isinstance Z.b_tuple (by decide +kernel) (de_v 0)) (de_isi .tuple Z.b_isinstance Z.b_tuple (by decide +kernel) (de_v 1))))).toB (dss_one (ds_ret de_bl)) dss_nil)
    (dss_one (ds_ret (de_and (de_eq hr (de_len Z.b_len (de_v 0)) (de_len Z.b_len (de_v 1))) (de_one (de_eq hr (de_lc' rfl sc__law_alike.nd (di_range1 Z.b_range (da_cons (de_len Z.b_len (de_v 1)) da_nil)) (blkOk_by (N := N__law_alike) (sc := (defScope s__law_alike)) (own := [("k", 2)]) (by decide +kernel)) (fun _ _ _ _ _ => (dg_name (i := 2) sc__law_alike.nd rfl (.inl rfl))) (fun _ _ _ _ _ => (dts_one (db_not (db_tru (de_c c__law_alike (takesNo rfl) hr (da_cons (de_ix (de_v 0) (de_v 2) (fun _ _ => rfl)) (da_cons (de_ix (de_v 1) (de_v 2) (fun _ _ => rfl)) da_nil))))))) (fun _ _ _ _ _ => (de_v 2)) (by decide)) (de_lst da_nil))))))) dss_nil)
    (dss_cons (ds_if (db_is (de_v 1) de_non) (dss_one (ds_ret (de_is (de_v 0) de_non))) dss_nil)
    (dss_cons (ds_if (dw_or (db_tru (de_isi .bool Z.b_isinstance Z.b_bool (by decide +kernel) (de_v 1))) (dw_or1 (db_tru (de_isi .bool Z.b_isinstance Z.b_bool (by decide +kernel) (de_v 0))))).toB (dss_one (ds_ret (de_and (de_isi .bool Z.b_isinstance Z.b_bool (by decide +kernel) (de_v 0)) (de_and (de_isi .bool Z.b_isinstance Z.b_bool (by decide +kernel) (de_v 1)) (de_one (de_eq hr (de_v 0) (de_v 1))))))) dss_nil)
    (dss_cons (ds_if (db_tru (de_isi .int Z.b_isinstance Z.b_int (by decide +kernel) (de_v 1))) (dss_one (ds_ret (de_and (de_isi .int Z.b_isinstance Z.b_int (by decide +kernel) (de_v 0)) (de_one (de_eq hr (de_v 0) (de_v 1)))))) dss_nil)
    (dss_one (ds_ret (de_and (de_isi .str Z.b_isinstance Z.b_str (by decide +kernel) (de_v 0)) (de_one (de_eq hr (de_v 0) (de_v 1))))))))))
theorem ok__law_alike {P : Program} {w : World} {K : PySem.W.Frag} {mg : Str → Option Value} {base : Heap} {k : Nat} {C_KiteError C_OutOfRange C_Malformed C_NotThere C_Refused C_TooMuch : Addr} {sp__law_alike : PSp} (Z : Top K mg C_KiteError C_OutOfRange C_Malformed C_NotThere C_Refused C_TooMuch) (c__law_alike : CallD P w K mg base k "_law_alike" p__law_alike sp__law_alike) {fa : Addr} {fd : FuncData} (F : Fun K "_law_alike" "_law_alike" s__law_alike fa fd) (hm : mg "_law_alike" = some (.ref fa)) (hb : Binds K fd p__law_alike []) {sp : PSp} (len : ∀ ds q x, sp ds q x → ds.length = 2)
    (hsp : ∀ ds q x, sp ds q x → T__law_alike sp__law_alike ⟨fun _ => q (.d .non), fun r _ => q r, fun _ => False, fun _ => False, fun c _ => x c⟩ (startE N__law_alike ds)) : CallD P w K mg base (k + 1) "_law_alike" p__law_alike sp :=
  ⟨fa, fd, fn_ok F sc__law_alike len (fun cdv A outer s H E hr => d__law_alike Z c__law_alike cdv A outer s H E hr) hsp, hm, F.kp, hb⟩
abbrev s__law_word : Stmt := topS 20
/-! _law_told -/
abbrev s__law_told : Stmt := topS 21
abbrev N__law_told : List Str := ["which", "one", "two", "e"]
abbrev p__law_told : List Str := ["which", "one", "two"]
theorem sc__law_told : FnScope N__law_told p__law_told (defScope s__law_told) := ⟨rfl, rfl, rfl, by decide +kernel, rfl, by decide +kernel, by decide +kernel⟩
def T__law_told (sp_pressed : PSp) (sp_fewest_presses : PSp) (sp_told_presses : PSp) (wd : Addr → Option Str) : ST := (sTryW wd 3 (sSeq (sIf (tT (t2 (fEq) (tV 0) (tK (.int 0)))) (sRet (tCall' sp_pressed (aCons (tV 1) (aCons (tV 2) aNil)))) sNext)
    (sRet (tIf' (tT (t2 (fEq) (tV 0) (tK (.int 1)))) (tCall' sp_fewest_presses (aCons (tV 1) (aCons (tV 2) aNil))) (tCall' sp_told_presses (aCons (tV 1) (aCons (tV 2) aNil)))))))
theorem d__law_told {P : Program} {w : World} {K : PySem.W.Frag} {mg : Str → Option Value} {base : Heap} {k : Nat} {C_KiteError C_OutOfRange C_Malformed C_NotThere C_Refused C_TooMuch : Addr} {sp_pressed : PSp} {sp_fewest_presses : PSp} {sp_told_presses : PSp} (Z : Top K mg C_KiteError C_OutOfRange C_Malformed C_NotThere C_Refused C_TooMuch) (c_pressed : CallD P w K mg base k "pressed" p_pressed sp_pressed) (c_fewest_presses : CallD P w K mg base k "fewest_presses" p_fewest_presses sp_fewest_presses) (c_told_presses : CallD P w K mg base k "told_presses" p_told_presses sp_told_presses) {wd : Addr → Option Str} {fW : Addr} {fdW : FuncData} (hw : WordOk P w K mg base k "_law_word" C_KiteError fW fdW wd) {fa : Addr} (cdv : Value) (A : Around) (outer : List Env) (s : Shared) (H : Hp) (E : XK)
    (hr : Room k (A.deeper (envOfC "_law_told" (defScope s__law_told) s.heap.objs.size fa cdv))) :
    DSs (cxOf (L2N.CX P w) P w K mg base N__law_told "_law_told" (defScope s__law_told) fa cdv A outer s H E) none (fun c d _ H => E c d H) (defBody s__law_told) (T__law_told sp_pressed sp_fewest_presses sp_told_presses wd) :=
  (dss_one (ds_tryW (wd := wd) (i := 3) rfl rfl sc__law_told.nd rfl rfl ⟨by rfl, by decide, .inl Z.x_KiteError.gC⟩ (L2N.takes_of rfl rfl rfl rfl) (fun W pn xe tk pw => (dss_cons (ds_if (db_eq hr (de_v 0) de_int) (dss_one (ds_ret (de_c c_pressed tk hr (da_cons (de_v 1) (da_cons (de_v 2) da_nil))))) dss_nil)
    (dss_one (ds_ret (de_if (db_eq hr (de_v 0) de_int) (de_c c_fewest_presses tk hr (da_cons (de_v 1) (da_cons (de_v 2) da_nil))) (de_c c_told_presses tk hr (da_cons (de_v 1) (da_cons (de_v 2) da_nil)))))))) hw.ex hw.fn hr rfl hw.mg hw.kp hw.bd))
theorem ok__law_told {P : Program} {w : World} {K : PySem.W.Frag} {mg : Str → Option Value} {base : Heap} {k : Nat} {C_KiteError C_OutOfRange C_Malformed C_NotThere C_Refused C_TooMuch : Addr} {sp_pressed : PSp} {sp_fewest_presses : PSp} {sp_told_presses : PSp} (Z : Top K mg C_KiteError C_OutOfRange C_Malformed C_NotThere C_Refused C_TooMuch) (c_pressed : CallD P w K mg base k "pressed" p_pressed sp_pressed) (c_fewest_presses : CallD P w K mg base k "fewest_presses" p_fewest_presses sp_fewest_presses) (c_told_presses : CallD P w K mg base k "told_presses" p_told_presses sp_told_presses) {wd : Addr → Option Str} {fW : Addr} {fdW : FuncData} (hw : WordOk P w K mg base k "_law_word" C_KiteError fW fdW wd) {fa : Addr} {fd : FuncData} (F : Fun K "_law_told" "_law_told" s__law_told fa fd) (hm : mg "_law_told" = some (.ref fa)) (hb : Binds K fd p__law_told []) {sp : PSp} (len : ∀ ds q x, sp ds q x → ds.length = 3)
    (hsp : ∀ ds q x, sp ds q x → T__law_told sp_pressed sp_fewest_presses sp_told_presses wd ⟨fun _ => q (.d .non), fun r _ => q r, fun _ => False, fun _ => False, fun c _ => x c⟩ (startE N__law_told ds)) : CallD P w K mg base (k + 1) "_law_told" p__law_told sp :=
  ⟨fa, fd, fn_ok F sc__law_told len (fun cdv A outer s H E hr => d__law_told Z c_pressed c_fewest_presses c_told_presses hw cdv A outer s H E hr) hsp, hm, F.kp, hb⟩
/-! _law_levels -/
abbrev s__law_levels : Stmt := topS 22
abbrev N__law_levels : List Str := ["a", "top", "seen", "level", "step", "later", "one", "other"]
abbrev p__law_levels : List Str := ["a", "top"]
theorem sc__law_levels : FnScope N__law_levels p__law_levels (defScope s__law_levels) := ⟨rfl, rfl, rfl, by decide +kernel, rfl, by decide +kernel, by decide +kernel⟩
def T__law_levels : ST := (sSeq (sSet 2 (tDisp1 0 0))
    (sSeq (sSet 3 (tLst' (aCons (tV 0) aNil)))
    (sSeq (sFor (iR1 (aCons (tK (.int 200)) aNil)) (gVar 4) (sSeq (sSet 5 (tLst' aNil))
    (sSeq (sFor (iSeqD (tV 3)) (gVar 6) (sFor (iSeqD (tLst' (aCons (t2 fMul (tK (.int 2)) (tV 6)) (aCons (t2 fSub (tV 6) (tK (.int 1))) aNil)))) (gVar 7) (sIf (bAnd (tT (tCh fLe fLe (tK (.int 1)) (tV 7) (tV 1))) (tT (t2 (fInD true) (tV 7) (tV 2)))) (sSeq (sAsg (t2 fAdd (tV 4) (tK (.int 1))) (gSetD (tV 2) (tV 7)))
    (sExpr (tAppend (tV 5) (aCons (tV 7) aNil)))) sNext)))
    (sSet 3 (tV 5)))))
    (sRet (tV 2)))))
theorem d__law_levels {P : Program} {w : World} {K : PySem.W.Frag} {mg : Str → Option Value} {base : Heap} {k : Nat} {C_KiteError C_OutOfRange C_Malformed C_NotThere C_Refused C_TooMuch : Addr} (Z : Top K mg C_KiteError C_OutOfRange C_Malformed C_NotThere C_Refused C_TooMuch) {fa : Addr} (cdv : Value) (A : Around) (outer : List Env) (s : Shared) (H : Hp) (E : XK)
    (hr : Room k (A.deeper (envOfC "_law_levels" (defScope s__law_levels) s.heap.objs.size fa cdv))) :
    DSs (cxOf (L2N.CX P w) P w K mg base N__law_levels "_law_levels" (defScope s__law_levels) fa cdv A outer s H E) none (fun c d _ H => E c d H) (defBody s__law_levels) (T__law_levels) :=
  (dss_cons (ds_set (i := 2) sc__law_levels.nd rfl (.inl rfl) (de_disp1 0))
    (dss_cons (ds_set (i := 3) sc__law_levels.nd rfl (.inl rfl) (de_lst (da_cons (de_v 0) da_nil)))
    (dss_cons (ds_for (L2.passes_of rfl) rfl (di_range1 Z.b_range (da_cons de_int da_nil)) (dg_name (i := 4) sc__law_levels.nd rfl (.inl rfl)) (dss_cons (ds_set (i := 5) sc__law_levels.nd rfl (.inl rfl) (de_lst da_nil))
    (dss_cons (ds_for (L2.passes_of rfl) rfl (di_seq (de_v 3)) (dg_name (i := 6) sc__law_levels.nd rfl (.inl rfl)) (dss_one (ds_for (L2.passes_of rfl) rfl (di_seq (de_lst (da_cons (de_mul de_int (de_v 6)) (da_cons (de_sub (de_v 6) de_int) da_nil)))) (dg_name (i := 7) sc__law_levels.nd rfl (.inl rfl)) (dss_one (ds_if (dw_and (db_chain op_le le_ok op_le le_ok de_int (de_v 7) (de_v 1)) (dw_and1 (db_notinD hr (de_v 7) (de_v 2)))).toB (dss_cons (ds_asg (de_add (de_v 4) de_int) (dg_setD hr (de_v 2) (de_v 7)))
    (dss_one (ds_expr (de_append (de_v 5) (da_cons (de_v 7) da_nil))))) dss_nil)))))
    (dss_one (ds_set (i := 3) sc__law_levels.nd rfl (.inl rfl) (de_v 5))))))
    (dss_one (ds_ret (de_v 2))))))
theorem ok__law_levels {P : Program} {w : World} {K : PySem.W.Frag} {mg : Str → Option Value} {base : Heap} {k : Nat} {C_KiteError C_OutOfRange C_Malformed C_NotThere C_Refused C_TooMuch : Addr} (Z : Top K mg C_KiteError C_OutOfRange C_Malformed C_NotThere C_Refused C_TooMuch) {fa : Addr} {fd : FuncData} (F : Fun K "_law_levels" "_law_levels" s__law_levels fa fd) (hm : mg "_law_levels" = some (.ref fa)) (hb : Binds K fd p__law_levels []) {sp : PSp} (len : ∀ ds q x, sp ds q x → ds.length = 2)
    (hsp : ∀ ds q x, sp ds q x → T__law_levels ⟨fun _ => q (.d .non), fun r _ => q r, fun _ => False, fun _ => False, fun c _ => x c⟩ (startE N__law_levels ds)) : CallD P w K mg base (k + 1) "_law_levels" p__law_levels sp :=
  ⟨fa, fd, fn_ok F sc__law_levels len (fun cdv A outer s H E hr => d__law_levels Z cdv A outer s H E hr) hsp, hm, F.kp, hb⟩
/-! _law_few -/
abbrev s__law_few : Stmt := topS 23
abbrev N__law_few : List Str := ["a", "b", "count", "step"]
abbrev p__law_few : List Str := ["a", "b"]
theorem sc__law_few : FnScope N__law_few p__law_few (defScope s__law_few) := ⟨rfl, rfl, rfl, by decide +kernel, rfl, by decide +kernel, by decide +kernel⟩
def T__law_few : ST := (sSeq (sSet 2 (tK (.int 0)))
    (sSeq (sFor (iR1 (aCons (tK (.int 220)) aNil)) (gVar 3) (sIf (tT (t2 (fGt) (tV 1) (tV 0))) (sSeq (sIf (tT (t2 (fEq) (t2 fMod (tC' fInt1 (aCons (tV 1) aNil)) (tK (.int 2))) (tK (.int 1)))) (sPar 1 2 (t2 fAdd (tV 1) (tK (.int 1))) (t2 fAdd (tV 2) (tK (.int 1)))) sNext)
    (sPar 1 2 (t2 fDiv (tV 1) (tK (.int 2))) (t2 fAdd (tV 2) (tK (.int 1))))) sNext))
    (sRet (t2 fSub (t2 fAdd (tV 2) (tV 0)) (tV 1)))))
theorem d__law_few {P : Program} {w : World} {K : PySem.W.Frag} {mg : Str → Option Value} {base : Heap} {k : Nat} {C_KiteError C_OutOfRange C_Malformed C_NotThere C_Refused C_TooMuch : Addr} (Z : Top K mg C_KiteError C_OutOfRange C_Malformed C_NotThere C_Refused C_TooMuch) {fa : Addr} (cdv : Value) (A : Around) (outer : List Env) (s : Shared) (H : Hp) (E : XK)
    (hr : Room k (A.deeper (envOfC "_law_few" (defScope s__law_few) s.heap.objs.size fa cdv))) :
    DSs (cxOf (L2N.CX P w) P w K mg base N__law_few "_law_few" (defScope s__law_few) fa cdv A outer s H E) none (fun c d _ H => E c d H) (defBody s__law_few) (T__law_few) :=
  (dss_cons (ds_set (i := 2) sc__law_few.nd rfl (.inl rfl) de_int)
    (dss_cons (ds_for (L2.passes_of rfl) rfl (di_range1 Z.b_range (da_cons de_int da_nil)) (dg_name (i := 3) sc__law_few.nd rfl (.inl rfl)) (dss_one (ds_if (db_gt (de_v 1) (de_v 0)) (dss_cons (ds_if (db_eq hr (de_mod (de_int1 Z.b_int (de_v 1)) de_int) de_int) (dss_one (ds_par (i := 1) (j := 2) rfl sc__law_few.nd rfl rfl (by decide) rfl rfl (de_add (de_v 1) de_int) (de_add (de_v 2) de_int) (by rfl))) dss_nil)
    (dss_one (ds_par (i := 1) (j := 2) rfl sc__law_few.nd rfl rfl (by decide) rfl rfl (de_div (de_v 1) de_int) (de_add (de_v 2) de_int) (by rfl)))) dss_nil)))
    (dss_one (ds_ret (de_sub (de_add (de_v 2) (de_v 0)) (de_v 1))))))
theorem ok__law_few {P : Program} {w : World} {K : PySem.W.Frag} {mg : Str → Option Value} {base : Heap} {k : Nat} {C_KiteError C_OutOfRange C_Malformed C_NotThere C_Refused C_TooMuch : Addr} (Z : Top K mg C_KiteError C_OutOfRange C_Malformed C_NotThere C_Refused C_TooMuch) {fa : Addr} {fd : FuncData} (F : Fun K "_law_few" "_law_few" s__law_few fa fd) (hm : mg "_law_few" = some (.ref fa)) (hb : Binds K fd p__law_few []) {sp : PSp} (len : ∀ ds q x, sp ds q x → ds.length = 2)
    (hsp : ∀ ds q x, sp ds q x → T__law_few ⟨fun _ => q (.d .non), fun r _ => q r, fun _ => False, fun _ => False, fun c _ => x c⟩ (startE N__law_few ds)) : CallD P w K mg base (k + 1) "_law_few" p__law_few sp :=
  ⟨fa, fd, fn_ok F sc__law_few len (fun cdv A outer s H E hr => d__law_few Z cdv A outer s H E hr) hsp, hm, F.kp, hb⟩
/-! law -/
abbrev s_law : Stmt := topS 24
abbrev N_law : List Str := ["script", "draws", "a", "seen", "turn", "b", "great", "one", "other", "few", "told", "now", "letter", "rest", "step", "tail", "presses", "good", "wrong", "words", "press", "text", "which"]
abbrev p_law : List Str := ["script"]
theorem sc_law : FnScope N_law p_law (defScope s_law) := ⟨rfl, rfl, rfl, by decide +kernel, rfl, by decide +kernel, by decide +kernel⟩
def T_law (sp__law_draws : PSp) (sp__law_take : PSpIO) (sp__law_levels : PSp) (sp__law_alike : PSp) (sp__law_told : PSp) (sp__law_few : PSp) : ST := (sSeq (sSet 1 (tCall' sp__law_draws (aCons (tV 0) aNil)))
    (sSeq (sSet 2 (t2 fAdd (tK (.int 1)) (tCallIO sp__law_take (aCons (tV 1) (aCons (tK (.int 30)) aNil)))))
    (sSeq (sSet 3 (tCall' sp__law_levels (aCons (tV 2) (aCons (tK (.int 260)) aNil))))
    (sSeq (sFor (iR1 (aCons (tK (.int 6)) aNil)) (gVar 4) (sSeq (sSet 5 (t2 fAdd (tK (.int 1)) (tCallIO sp__law_take (aCons (tV 1) (aCons (tK (.int 120)) aNil)))))
    (sIf (bOr (bNot (tTr (tCall' sp__law_alike (aCons (tCall' sp__law_told (aCons (tK (.int 1)) (aCons (tV 2) (aCons (tV 5) aNil)))) (aCons (t2 fIxD (tV 3) (tV 5)) aNil))))) (bNot (tTr (tCall' sp__law_alike (aCons (tCall' sp__law_few (aCons (tV 2) (aCons (tV 5) aNil))) (aCons (t2 fIxD (tV 3) (tV 5)) aNil)))))) (sRet (tK (.bl false))) sNext)))
    (sSeq (sSet 6 (tK (.int 0)))
    (sSeq (sFor (iR1 (aCons (t2 fAdd (tK (.int 1)) (tCallIO sp__law_take (aCons (tV 1) (aCons (tK (.int 9)) aNil)))) aNil)) (gVar 4) (sSet 6 (t2 fAdd (t2 fMul (tV 6) (tK (.int 997))) (tCallIO sp__law_take (aCons (tV 1) (aCons (tK (.int 997)) aNil))))))
    (sSeq (sFor (iSeqD (tLst' (aCons (tTup' (aCons (t2 fAdd (tK (.int 1)) (tCallIO sp__law_take (aCons (tV 1) (aCons (tK (.int 997)) aNil)))) (aCons (t2 fAdd (tK (.int 1)) (tV 6)) aNil))) (aCons (tTup' (aCons (t2 fAdd (tK (.int 1)) (tV 6)) (aCons (t2 fAdd (tK (.int 1)) (tCallIO sp__law_take (aCons (tV 1) (aCons (tK (.int 997)) aNil)))) aNil))) (aCons (tTup' (aCons (t2 fAdd (tK (.int 1)) (t2 fDiv (tV 6) (tK (.int 3)))) (aCons (t2 fAdd (tK (.int 1)) (tV 6)) aNil))) (aCons (tTup' (aCons (tK (.int 1)) (aCons (t2 fSub (t2 fPow (tK (.int 10)) (tK (.int 30))) (tCallIO sp__law_take (aCons (tV 1) (aCons (tK (.int 99)) aNil)))) aNil))) aNil)))))) (gTupD 2 (gsCons (gVar 7) (gsCons (gVar 8) gsNil))) (sSeq (sSet 9 (tCall' sp__law_few (aCons (tV 7) (aCons (tV 8) aNil))))
    (sSeq (sIf (bOr (bNot (tTr (tCall' sp__law_alike (aCons (tCall' sp__law_told (aCons (tK (.int 1)) (aCons (tV 7) (aCons (tV 8) aNil)))) (aCons (tV 9) aNil))))) (tT (t2 (fGt) (tCall' sp__law_told (aCons (tK (.int 1)) (aCons (t2 fAdd (tV 7) (tK (.int 1))) (aCons (tV 8) aNil)))) (t2 fAdd (tV 9) (tK (.int 1)))))) (sRet (tK (.bl false))) sNext)
    (sSeq (sSet 10 (tCall' sp__law_told (aCons (tK (.int 2)) (aCons (tV 7) (aCons (tV 8) aNil)))))
    (sIf (tT (t2 (fGt) (tV 9) (tK (.int 10000)))) (sIf (tT (t2 (fNe) (tV 10) (tK (.str "much")))) (sRet (tK (.bl false))) sNext) (sSeq (sIf (bOr (bNot (tTr (t1 (fIsi .str) (tV 10)))) (bOr (tT (t2 (fNe) (tC' fLen (aCons (tV 10) aNil)) (tV 9))) (bNot (tTr (tCall' sp__law_alike (aCons (tCall' sp__law_told (aCons (tK (.int 0)) (aCons (tV 7) (aCons (tV 10) aNil)))) (aCons (tV 8) aNil))))))) (sRet (tK (.bl false))) sNext)
    (sSeq (sSet 11 (tV 7))
    (sSeq (sFor (iStrD (tV 10)) (gVar 12) (sSeq (sSet 11 (tIf' (tT (t2 (fEq) (tV 12) (tK (.str "D")))) (t2 fMul (tK (.int 2)) (tV 11)) (t2 fSub (tV 11) (tK (.int 1)))))
    (sIf (bNot (tT (tCh fLe fLe (tK (.int 1)) (tV 11) (tC' fMax2 (aCons (tV 7) (aCons (t2 fAdd (tV 8) (tK (.int 1))) aNil)))))) (sRet (tK (.bl false))) sNext)))
    (sSeq (sSet 11 (tV 8))
    (sSeq (sSet 13 (tV 10))
    (sSeq (sFor (iR1 (aCons (tK (.int 220)) aNil)) (gVar 14) (sIf (tT (t2 (fGt) (tV 11) (tV 7))) (sSeq (sSet 15 (tIf' (tT (t2 (fEq) (t2 fMod (tC' fInt1 (aCons (tV 11) aNil)) (tK (.int 2))) (tK (.int 0)))) (tK (.str "D")) (tK (.str "DM"))))
    (sSeq (sIf (bNot (tTr (tStrM fEndsW (tV 13) (tV 15)))) (sRet (tK (.bl false))) sNext)
    (sSeq (sSet 13 (tSl' (tV 13) oNone (oSome (t2 fSub (tC' fLen (aCons (tV 13) aNil)) (tC' fLen (aCons (tV 15) aNil))))))
    (sSet 11 (t2 fDiv (t2 fAdd (tV 11) (tK (.int 1))) (tK (.int 2))))))) sNext))
    (sIf (tT (t2 (fNe) (tV 13) (t2 fMulS (tK (.str "M")) (t2 fSub (tV 7) (tV 11))))) (sRet (tK (.bl false))) sNext))))))))))))
    (sSeq (sSet 16 (tStrM fJoin (tK (.str "")) (tLc' (iR1 (aCons (tCallIO sp__law_take (aCons (tV 1) (aCons (tK (.int 40)) aNil))) aNil)) (gVar 20) bYes (t2 fIx (tK (.str "DM")) (tCallIO sp__law_take (aCons (tV 1) (aCons (tK (.int 2)) aNil)))) [20])))
    (sSeq (sPar 11 17 (tV 2) (tK (.bl true)))
    (sSeq (sFor (iStrD (tV 16)) (gVar 12) (sIf (tTr (tV 17)) (sSeq (sSet 17 (tOr' (t2 (fEq) (tV 12) (tK (.str "D"))) (t2 (fGt) (tV 11) (tK (.int 1)))))
    (sSet 11 (tIf' (tT (t2 (fEq) (tV 12) (tK (.str "D")))) (t2 fMul (tK (.int 2)) (tV 11)) (t2 fSub (tV 11) (tK (.int 1)))))) sNext))
    (sSeq (sIf (bNot (tTr (tCall' sp__law_alike (aCons (tCall' sp__law_told (aCons (tK (.int 0)) (aCons (tV 2) (aCons (tV 16) aNil)))) (aCons (tIf' (tTr (tV 17)) (tV 11) (tK (.str "refused"))) aNil))))) (sRet (tK (.bl false))) sNext)
    (sSeq (sSet 18 (tLc' (iSeqD (tLst' (aCons (tK (.str "d")) (aCons (tK (.str "DX")) (aCons (tK (.str "D M")) (aCons (t2 fMulS (tK (.str "M")) (tV 2)) (aCons (t2 fAdd (tV 16) (tK (.str "?"))) aNil))))))) (gVar 21) bYes (tCall' sp__law_told (aCons (tK (.int 0)) (aCons (tV 2) (aCons (tV 21) aNil)))) [21]))
    (sSeq (sSet 19 (tLc' (iSeqD (tLst' (aCons (tTup' (aCons (tK (.int 1)) (aCons (tK (.int 0)) (aCons (tK (.int 1)) aNil)))) (aCons (tTup' (aCons (tK (.int 1)) (aCons (tK (.int 1)) (aCons (tK (.int 0)) aNil)))) (aCons (tTup' (aCons (tK (.int 1)) (aCons (t2 fAdd (t2 fPow (tK (.int 10)) (tK (.int 30))) (tK (.int 1))) (aCons (tK (.int 1)) aNil)))) (aCons (tTup' (aCons (tK (.int 1)) (aCons (tK (.int 1)) (aCons (t2 fAdd (t2 fPow (tK (.int 10)) (tK (.int 30))) (tK (.int 1))) aNil)))) (aCons (tTup' (aCons (tK (.int 2)) (aCons (tK (.int 0)) (aCons (tK (.int 1)) aNil)))) (aCons (tTup' (aCons (tK (.int 2)) (aCons (tK (.int 1)) (aCons (tK (.int 0)) aNil)))) (aCons (tTup' (aCons (tK (.int 2)) (aCons (tK (.int 1)) (aCons (t2 fAdd (t2 fPow (tK (.int 10)) (tK (.int 30))) (tK (.int 1))) aNil)))) aNil))))))))) (gTupD 3 (gsCons (gVar 22) (gsCons (gVar 7) (gsCons (gVar 8) gsNil)))) bYes (tCall' sp__law_told (aCons (tV 22) (aCons (tV 7) (aCons (tV 8) aNil)))) [22, 7, 8]))
    (sRet (tAnd' (t2 (fEq) (tV 18) (t2 fMul (tLst' (aCons (tK (.str "refused")) aNil)) (tK (.int 5)))) (tAnd' (t2 (fEq) (tV 19) (t2 fMul (tLst' (aCons (tK (.str "range")) aNil)) (tK (.int 7)))) (tAnd' (t2 (fEq) (tCall' sp__law_told (aCons (tK (.int 2)) (aCons (t2 fPow (tK (.int 10)) (tK (.int 6))) (aCons (tK (.int 5)) aNil)))) (tK (.str "much"))) (t2 (fEq) (tCall' sp__law_told (aCons (tK (.int 2)) (aCons (tK (.int 10005)) (aCons (tK (.int 5)) aNil)))) (t2 fMulS (tK (.str "M")) (tK (.int 10000)))))))))))))))))))))
theorem d_law {P : Program} {w : World} {K : PySem.W.Frag} {mg : Str → Option Value} {base : Heap} {k : Nat} {C_KiteError C_OutOfRange C_Malformed C_NotThere C_Refused C_TooMuch : Addr} {sp__law_draws : PSp} {sp__law_take : PSpIO} {sp__law_levels : PSp} {sp__law_alike : PSp} {sp__law_told : PSp} {sp__law_few : PSp} (Z : Top K mg C_KiteError C_OutOfRange C_Malformed C_NotThere C_Refused C_TooMuch) (c__law_draws : CallD P w K mg base k "_law_draws" p__law_draws sp__law_draws) (c__law_take : CallIO P w K mg base k "_law_take" p__law_take sp__law_take) (c__law_levels : CallD P w K mg base k "_law_levels" p__law_levels sp__law_levels) (c__law_alike : CallD P w K mg base k "_law_alike" p__law_alike sp__law_alike) (c__law_told : CallD P w K mg base k "_law_told" p__law_told sp__law_told) (c__law_few : CallD P w K mg base k "_law_few" p__law_few sp__law_few) {fa : Addr} (cdv : Value) (A : Around) (outer : List Env) (s : Shared) (H : Hp) (E : XK)
    (hr : Room k (A.deeper (envOfC "law" (defScope s_law) s.heap.objs.size fa cdv))) :
    DSs (cxOf (L2N.CX P w) P w K mg base N_law "law" (defScope s_law) fa cdv A outer s H E) none (fun c d _ H => E c d H) (defBody s_law) (T_law sp__law_draws sp__law_take sp__law_levels sp__law_alike sp__law_told sp__law_few) :=
  (dss_cons (ds_set (i := 1) sc_law.nd rfl (.inr rfl) (de_c c__law_draws (L2N.takes_of rfl rfl rfl rfl) hr (da_cons (de_v 0) da_nil)))
    (dss_cons (ds_set (i := 2) sc_law.nd rfl (.inr rfl) (de_add de_int (de_cIO c__law_take (L2N.takes_of rfl rfl rfl rfl) hr (da_cons (de_v 1) (da_cons de_int da_nil)))))
    (dss_cons (ds_set (i := 3) sc_law.nd rfl (.inl rfl) (de_c c__law_levels (L2N.takes_of rfl rfl rfl rfl) hr (da_cons (de_v 2) (da_cons de_int da_nil))))
    (dss_cons (ds_for (L2.passes_of rfl) rfl (di_range1 Z.b_range (da_cons de_int da_nil)) (dg_name (i := 4) sc_law.nd rfl (.inl rfl)) (dss_cons (ds_set (i := 5) sc_law.nd rfl (.inl rfl) (de_add de_int (de_cIO c__law_take (L2N.takes_of rfl rfl rfl rfl) hr (da_cons (de_v 1) (da_cons de_int da_nil)))))
    (dss_one (ds_if (dw_or (db_not (db_tru (de_c c__law_alike (L2N.takes_of rfl rfl rfl rfl) hr (da_cons (de_c c__law_told (L2N.takes_of rfl rfl rfl rfl) hr (da_cons de_int (da_cons (de_v 2) (da_cons (de_v 5) da_nil)))) (da_cons (de_ixD hr (de_v 3) (de_v 5)) da_nil))))) (dw_or1 (db_not (db_tru (de_c c__law_alike (L2N.takes_of rfl rfl rfl rfl) hr (da_cons (de_c c__law_few (L2N.takes_of rfl rfl rfl rfl) hr (da_cons (de_v 2) (da_cons (de_v 5) da_nil))) (da_cons (de_ixD hr (de_v 3) (de_v 5)) da_nil))))))).toB (dss_one (ds_ret de_bl)) dss_nil))))
    (dss_cons (ds_set (i := 6) sc_law.nd rfl (.inl rfl) de_int)
    (dss_cons (ds_for (L2.passes_of rfl) rfl (di_range1 Z.b_range (da_cons (de_add de_int (de_cIO c__law_take (L2N.takes_of rfl rfl rfl rfl) hr (da_cons (de_v 1) (da_cons de_int da_nil)))) da_nil)) (dg_name (i := 4) sc_law.nd rfl (.inl rfl)) (dss_one (ds_set (i := 6) sc_law.nd rfl (.inl rfl) (de_add (de_mul (de_v 6) de_int) (de_cIO c__law_take (L2N.takes_of rfl rfl rfl rfl) hr (da_cons (de_v 1) (da_cons de_int da_nil)))))))
    (dss_cons (ds_for (L2.passes_of rfl) rfl (di_seq (de_lst (da_cons (de_tup (da_cons (de_add de_int (de_cIO c__law_take (L2N.takes_of rfl rfl rfl rfl) hr (da_cons (de_v 1) (da_cons de_int da_nil)))) (da_cons (de_add de_int (de_v 6)) da_nil))) (da_cons (de_tup (da_cons (de_add de_int (de_v 6)) (da_cons (de_add de_int (de_cIO c__law_take (L2N.takes_of rfl rfl rfl rfl) hr (da_cons (de_v 1) (da_cons de_int da_nil)))) da_nil))) (da_cons (de_tup (da_cons (de_add de_int (de_div (de_v 6) de_int)) (da_cons (de_add de_int (de_v 6)) da_nil))) (da_cons (de_tup (da_cons de_int (da_cons (de_sub (de_pow de_int de_int) (de_cIO c__law_take (L2N.takes_of rfl rfl rfl rfl) hr (da_cons (de_v 1) (da_cons de_int da_nil)))) da_nil))) da_nil)))))) (dg_tup rfl (dgs_cons (dg_name (i := 7) sc_law.nd rfl (.inl rfl)) (dgs_cons (dg_name (i := 8) sc_law.nd rfl (.inl rfl)) dgs_nil))) (dss_cons (ds_set (i := 9) sc_law.nd rfl (.inl rfl) (de_c c__law_few (L2N.takes_of rfl rfl rfl rfl) hr (da_cons (de_v 7) (da_cons (de_v 8) da_nil))))
    (dss_cons (ds_if (dw_or (db_not (db_tru (de_c c__law_alike (L2N.takes_of rfl rfl rfl rfl) hr (da_cons (de_c c__law_told (L2N.takes_of rfl rfl rfl rfl) hr (da_cons de_int (da_cons (de_v 7) (da_cons (de_v 8) da_nil)))) (da_cons (de_v 9) da_nil))))) (dw_or1 (db_gt (de_c c__law_told (L2N.takes_of rfl rfl rfl rfl) hr (da_cons de_int (da_cons (de_add (de_v 7) de_int) (da_cons (de_v 8) da_nil)))) (de_add (de_v 9) de_int)))).toB (dss_one (ds_ret de_bl)) dss_nil)
    (dss_cons (ds_set (i := 10) sc_law.nd rfl (.inl rfl) (de_c c__law_told (L2N.takes_of rfl rfl rfl rfl) hr (da_cons de_int (da_cons (de_v 7) (da_cons (de_v 8) da_nil)))))
    (dss_one (ds_if (db_gt (de_v 9) de_int) (dss_one (ds_if (db_ne hr (de_v 10) de_str) (dss_one (ds_ret de_bl)) dss_nil)) (dss_cons (ds_if (dw_or (db_not (db_tru (de_isi .str Z.b_isinstance Z.b_str (by decide +kernel) (de_v 10)))) (dw_or (db_ne hr (de_len Z.b_len (de_v 10)) (de_v 9)) (dw_or1 (db_not (db_tru (de_c c__law_alike (L2N.takes_of rfl rfl rfl rfl) hr (da_cons (de_c c__law_told (L2N.takes_of rfl rfl rfl rfl) hr (da_cons de_int (da_cons (de_v 7) (da_cons (de_v 10) da_nil)))) (da_cons (de_v 8) da_nil)))))))).toB (dss_one (ds_ret de_bl)) dss_nil)
    (dss_cons (ds_set (i := 11) sc_law.nd rfl (.inl rfl) (de_v 7))
    (dss_cons (ds_for (L2.passes_of rfl) rfl (di_str (de_v 10)) (dg_name (i := 12) sc_law.nd rfl (.inl rfl)) (dss_cons (ds_set (i := 11) sc_law.nd rfl (.inl rfl) (de_if (db_eq hr (de_v 12) de_str) (de_mul de_int (de_v 11)) (de_sub (de_v 11) de_int)))
    (dss_one (ds_if (db_not (db_chain op_le le_ok op_le le_ok de_int (de_v 11) (de_max2 Z.b_max rfl (de_v 7) (de_add (de_v 8) de_int)))) (dss_one (ds_ret de_bl)) dss_nil))))
    (dss_cons (ds_set (i := 11) sc_law.nd rfl (.inl rfl) (de_v 8))
    (dss_cons (ds_set (i := 13) sc_law.nd rfl (.inl rfl) (de_v 10))
    (dss_cons (ds_for (L2.passes_of rfl) rfl (di_range1 Z.b_range (da_cons de_int da_nil)) (dg_name (i := 14) sc_law.nd rfl (.inl rfl)) (dss_one (ds_if (db_gt (de_v 11) (de_v 7)) (dss_cons (ds_set (i := 15) sc_law.nd rfl (.inl rfl) (de_if (db_eq hr (de_mod (de_int1 Z.b_int (de_v 11)) de_int) de_int) de_str de_str))
    (dss_cons (ds_if (db_not (db_tru (de_endswith (de_v 13) (de_v 15)))) (dss_one (ds_ret de_bl)) dss_nil)
    (dss_cons (ds_set (i := 13) sc_law.nd rfl (.inl rfl) (de_slice (de_v 13) do_none (do_some (de_sub (de_len Z.b_len (de_v 13)) (de_len Z.b_len (de_v 15))))))
    (dss_one (ds_set (i := 11) sc_law.nd rfl (.inl rfl) (de_div (de_add (de_v 11) de_int) de_int)))))) dss_nil)))
    (dss_one (ds_if (db_ne hr (de_v 13) (de_mulS de_str (de_sub (de_v 7) (de_v 11)))) (dss_one (ds_ret de_bl)) dss_nil))))))))))))))
    (dss_cons (ds_set (i := 16) sc_law.nd rfl (.inl rfl) (de_join de_str (de_lc' rfl sc_law.nd (di_range1 Z.b_range (da_cons (de_cIO c__law_take (L2N.takes_of rfl rfl rfl rfl) hr (da_cons (de_v 1) (da_cons de_int da_nil))) da_nil)) (blkOk_by (N := N_law) (sc := (defScope s_law)) (own := [("press", 20)]) (by decide +kernel)) (fun _ _ _ _ _ => (dg_name (i := 20) sc_law.nd rfl (.inl rfl))) (fun _ _ _ _ _ => dts_nil) (fun _ _ _ _ _ => (de_ix de_str (de_cIO c__law_take (takesNo rfl) hr (da_cons (de_v 1) (da_cons de_int da_nil))) (fun _ _ => rfl))) (by decide))))
    (dss_cons (ds_par (i := 11) (j := 17) rfl sc_law.nd rfl rfl (by decide) rfl rfl (de_v 2) de_bl (by rfl))
    (dss_cons (ds_for (L2.passes_of rfl) rfl (di_str (de_v 16)) (dg_name (i := 12) sc_law.nd rfl (.inl rfl)) (dss_one (ds_if (db_tru (de_v 17)) (dss_cons (ds_set (i := 17) sc_law.nd rfl (.inl rfl) (de_or (de_eq hr (de_v 12) de_str) (de_one (de_gt (de_v 11) de_int))))
    (dss_one (ds_set (i := 11) sc_law.nd rfl (.inl rfl) (de_if (db_eq hr (de_v 12) de_str) (de_mul de_int (de_v 11)) (de_sub (de_v 11) de_int))))) dss_nil)))
    (dss_cons (ds_if (db_not (db_tru (de_c c__law_alike (L2N.takes_of rfl rfl rfl rfl) hr (da_cons (de_c c__law_told (L2N.takes_of rfl rfl rfl rfl) hr (da_cons de_int (da_cons (de_v 2) (da_cons (de_v 16) da_nil)))) (da_cons (de_if (db_tru (de_v 17)) (de_v 11) de_str) da_nil))))) (dss_one (ds_ret de_bl)) dss_nil)
    (dss_cons (ds_setLc' (i := 18) rfl sc_law.nd rfl rfl (sw_true rfl rfl rfl (by decide +kernel)) (di_seq (de_lst (da_cons de_str (da_cons de_str (da_cons de_str (da_cons (de_mulS de_str (de_v 2)) (da_cons (de_add (de_v 16) de_str) da_nil))))))) (blkOk_by (N := N_law) (sc := (defScope s_law)) (own := [("text", 21)]) (by decide +kernel)) (fun _ _ _ _ _ => (dg_name (i := 21) sc_law.nd rfl (.inl rfl))) (fun _ _ _ _ _ => dts_nil) (fun _ _ _ _ _ => (de_c c__law_told (takesNo rfl) hr (da_cons de_int (da_cons (de_v 2) (da_cons (de_v 21) da_nil))))) (by decide))
    (dss_cons (ds_setLc' (i := 19) rfl sc_law.nd rfl rfl (sw_true rfl rfl rfl (by decide +kernel)) (di_seq (de_lst (da_cons (de_tup (da_cons de_int (da_cons de_int (da_cons de_int da_nil)))) (da_cons (de_tup (da_cons de_int (da_cons de_int (da_cons de_int da_nil)))) (da_cons (de_tup (da_cons de_int (da_cons (de_add (de_pow de_int de_int) de_int) (da_cons de_int da_nil)))) (da_cons (de_tup (da_cons de_int (da_cons de_int (da_cons (de_add (de_pow de_int de_int) de_int) da_nil)))) (da_cons (de_tup (da_cons de_int (da_cons de_int (da_cons de_int da_nil)))) (da_cons (de_tup (da_cons de_int (da_cons de_int (da_cons de_int da_nil)))) (da_cons (de_tup (da_cons de_int (da_cons de_int (da_cons (de_add (de_pow de_int de_int) de_int) da_nil)))) da_nil))))))))) (blkOk_by (N := N_law) (sc := (defScope s_law)) (own := [("which", 22), ("one", 7), ("other", 8)]) (by decide +kernel)) (fun _ _ _ _ _ => (dg_tup rfl (dgs_cons (dg_name (i := 22) sc_law.nd rfl (.inl rfl)) (dgs_cons (dg_name (i := 7) sc_law.nd rfl (.inl rfl)) (dgs_cons (dg_name (i := 8) sc_law.nd rfl (.inl rfl)) dgs_nil))))) (fun _ _ _ _ _ => dts_nil) (fun _ _ _ _ _ => (de_c c__law_told (takesNo rfl) hr (da_cons (de_v 22) (da_cons (de_v 7) (da_cons (de_v 8) da_nil))))) (by decide))
    (dss_one (ds_ret (de_and (de_eq hr (de_v 18) (de_mul (de_lst (da_cons de_str da_nil)) de_int)) (de_and (de_eq hr (de_v 19) (de_mul (de_lst (da_cons de_str da_nil)) de_int)) (de_and (de_eq hr (de_c c__law_told (L2N.takes_of rfl rfl rfl rfl) hr (da_cons de_int (da_cons (de_pow de_int de_int) (da_cons de_int da_nil)))) de_str) (de_one (de_eq hr (de_c c__law_told (L2N.takes_of rfl rfl rfl rfl) hr (da_cons de_int (da_cons de_int (da_cons de_int da_nil)))) (de_mulS de_str de_int)))))))))))))))))))))
theorem ok_law {P : Program} {w : World} {K : PySem.W.Frag} {mg : Str → Option Value} {base : Heap} {k : Nat} {C_KiteError C_OutOfRange C_Malformed C_NotThere C_Refused C_TooMuch : Addr} {sp__law_draws : PSp} {sp__law_take : PSpIO} {sp__law_levels : PSp} {sp__law_alike : PSp} {sp__law_told : PSp} {sp__law_few : PSp} (Z : Top K mg C_KiteError C_OutOfRange C_Malformed C_NotThere C_Refused C_TooMuch) (c__law_draws : CallD P w K mg base k "_law_draws" p__law_draws sp__law_draws) (c__law_take : CallIO P w K mg base k "_law_take" p__law_take sp__law_take) (c__law_levels : CallD P w K mg base k "_law_levels" p__law_levels sp__law_levels) (c__law_alike : CallD P w K mg base k "_law_alike" p__law_alike sp__law_alike) (c__law_told : CallD P w K mg base k "_law_told" p__law_told sp__law_told) (c__law_few : CallD P w K mg base k "_law_few" p__law_few sp__law_few) {fa : Addr} {fd : FuncData} (F : Fun K "law" "law" s_law fa fd) (hm : mg "law" = some (.ref fa)) (hb : Binds K fd p_law []) {sp : PSp} (len : ∀ ds q x, sp ds q x → ds.length = 1)
    (hsp : ∀ ds q x, sp ds q x → T_law sp__law_draws sp__law_take sp__law_levels sp__law_alike sp__law_told sp__law_few ⟨fun _ => q (.d .non), fun r _ => q r, fun _ => False, fun _ => False, fun c _ => x c⟩ (startE N_law ds)) : CallD P w K mg base (k + 1) "law" p_law sp :=
  ⟨fa, fd, fn_ok F sc_law len (fun cdv A outer s H E hr => d_law Z c__law_draws c__law_take c__law_levels c__law_alike c__law_told c__law_few cdv A outer s H E hr) hsp, hm, F.kp, hb⟩
end K81

set_option Elab.async false
set_option linter.all false
set_option maxRecDepth 100000
set_option maxHeartbeats 4000000
namespace K81
open PySem PySem.Spec PyProof.Rows L2 DL LW
theorem lD : ("D" : Str) = tx [68] := by decide
theorem lM : ("M" : Str) = tx [77] := by decide
theorem lE : ("" : Str) = tx [] := by decide
theorem lDM : ("DM" : Str) = tx [68, 77] := by decide
section
variable {C C2 : Addr}
def sp_chk (C : Addr) : PSp := fun ds q x => ∃ a b : Int, ds = [.int a, .int b] ∧ ((1 ≤ a ∧ a ≤ 1000000000000000000000000000000) ∧ 1 ≤ b ∧ b ≤ 1000000000000000000000000000000 → q (.d .non)) ∧ (¬ ((1 ≤ a ∧ a ≤ 1000000000000000000000000000000) ∧ 1 ≤ b ∧ b ≤ 1000000000000000000000000000000) → x C)
theorem chk_ok (ds q x) (h : sp_chk C ds q x) : T_check_numbers sp_is_number C (SEr q x) (startE N_check_numbers ds) := by
  obtain ⟨a, b, rfl, h1, h2⟩ := h
  unfold T_check_numbers
  walk_at "dl"
  refine ⟨_, _, _, rfl, rfl, ?_⟩
  walk_at "dl"
  by_cases h : 1 ≤ a ∧ a ≤ 1000000000000000000000000000000
  · rw [numB_t h]
    walk_at "dl"
    refine ⟨_, _, _, rfl, rfl, ?_⟩
    walk_at "dl"
    by_cases h3 : 1 ≤ b ∧ b ≤ 1000000000000000000000000000000
    · rw [numB_t h3]
      walk_at "dl"
      exact h1 ⟨h, h3⟩
    · rw [numB_f h3]
      walk_at "dl"
      exact h2 fun z => h3 z.2
  · rw [numB_f h]
    walk_at "dl"
    exact h2 fun z => h z.1
/-- both in bounds -/
structure In2 (a b : Nat) : Prop where
  a1 : 1 ≤ a
  a2 : a ≤ 1000000000000000000000000000000
  b1 : 1 ≤ b
  b2 : b ≤ 1000000000000000000000000000000
def sp_fewest (C : Addr) : PSp := fun ds q x => ∃ a b : Int, ds = [.int a, .int b] ∧ (∀ a' b' : Nat, a = (a' : Int) → b = (b' : Int) → In2 a' b' → q (.d (.int (F a' b' : Nat)))) ∧ (¬ ((1 ≤ a ∧ a ≤ 1000000000000000000000000000000) ∧ 1 ≤ b ∧ b ≤ 1000000000000000000000000000000) → x C)
theorem half_int (b : Nat) : ((b : Int) + 1) / 2 = (((b + 1) / 2 : Nat) : Int) := by omega
theorem fewest_ok (ds q x) (h : sp_fewest C ds q x) : T_fewest_presses (sp_chk C) (SEr q x) (startE N_fewest_presses ds) := by
  obtain ⟨a, b, rfl, h1, h2⟩ := h
  unfold T_fewest_presses
  walk_at "dl"
  refine ⟨_, _, rfl, fun h => ?_, h2⟩
  obtain ⟨a, rfl⟩ := Int.eq_ofNat_of_zero_le (show 0 ≤ a by omega)
  obtain ⟨b, rfl⟩ := Int.eq_ofNat_of_zero_le (show 0 ≤ b by omega)
  have hI : In2 a b := ⟨by omega, by omega, by omega, by omega⟩
  have fin := h1 a b rfl rfl hI
  obtain ⟨a1, a2, b1, b2⟩ := hI
  clear h1 h2
  walk_at "dl"
  refine ⟨fun m ρ => ∃ (c n : Nat), ρ = [.va (.int a), .va (.int c), .va (.int n)] ∧ F a b = n + F a c ∧ 1 ≤ c ∧ c ≤ 1000000000000000000000000000000 ∧ m = c, ⟨b, b, 0, rfl, by omega, b1, b2, rfl⟩, fun m ρ hP => ?_⟩
  obtain ⟨c, n, rfl, hF, hc, hc2, rfl⟩ := hP
  walk_at "dl"
  split
  · rename_i hlt
    have hlt : a < m := by omega
    have eF := F_gt a1 hlt
    rw [pc_len] at eF
    walk_at "dl"
    refine ⟨by decide, ?_⟩
    split
    · rename_i z
      have z : m % 2 = 0 := by omega
      rw [if_pos z] at eF
      walk_at "dl"
      refine ⟨cdivw (by decide) (bt_lit (by decide)) (by decide), ?_⟩
      rw [half_int]
      exact ⟨(m + 1) / 2, by omega, (m + 1) / 2, n + 1, rfl, by omega, by omega, by omega, rfl⟩
    · rename_i z
      have z : ¬ m % 2 = 0 := by omega
      rw [if_neg z] at eF
      walk_at "dl"
      refine ⟨cdivw (by decide) (bt_lit (by decide)) (by decide), ?_⟩
      rw [half_int]
      exact ⟨(m + 1) / 2, by omega, (m + 1) / 2, n + 2, rfl, by omega, by omega, by omega, rfl⟩
  · rename_i hge
    have hge : m ≤ a := by omega
    rw [F_le hge] at hF
    walk_at "dl"
    rw [show (n : Int) + a - m = ((F a b : Nat) : Int) by omega]
    exact fin
def sp_lfew : PSp := fun ds q x => ∃ a b : Nat, ds = [.int a, .int b] ∧ In2 a b ∧ q (.d (.int (F a b : Nat)))
theorem lfew_ok (ds q x) (h : sp_lfew ds q x) : T__law_few (SEr q x) (startE N__law_few ds) := by
  obtain ⟨a, b, rfl, ⟨a1, a2, b1, b2⟩, fin⟩ := h
  unfold T__law_few
  walk_at "dl"
  refine ⟨by decide, by decide, ?_⟩
  refine ⟨fun i ρ => ∃ (c n : Nat) (s : Sl), ρ = [.va (.int a), .va (.int c), .va (.int n), s] ∧ F a b = n + F a c ∧ 1 ≤ c ∧ c ≤ 1000000000000000000000000000000 ∧ (c ≤ a ∨ c - 1 = (b - 1) / 2 ^ i), ⟨b, 0, .no, rfl, by omega, b1, b2, .inr (by rw [Nat.pow_zero, Nat.div_one])⟩, fun i d ρ hd hP => ?_, fun ρ hP => ?_⟩
  · obtain ⟨hi, rfl⟩ := rng_get hd
    obtain ⟨c, n, s, rfl, hF, hc, hc2, hh⟩ := hP
    walk_at "dl"
    split
    · rename_i hlt
      have hlt : a < c := by omega
      have eF := F_gt a1 hlt
      rw [pc_len] at eF
      have hs := half_step hh hlt a1
      walk_at "dl"
      refine ⟨by decide, ?_⟩
      split
      · rename_i z
        have z : ¬ c % 2 = 0 := by omega
        rw [if_neg z] at eF
        walk_at "dl"
        refine ⟨cdivw (by decide) (bt_lit (by decide)) (by decide), ?_⟩
        rw [half_int]
        exact ⟨(c + 1) / 2, n + 1 + 1, _, rfl, by omega, by omega, by omega, .inr hs⟩
      · rename_i z
        have z : c % 2 = 0 := by omega
        rw [if_pos z] at eF
        have e : (c : Int) / 2 = (((c + 1) / 2 : Nat) : Int) := by omega
        walk_at "dl"
        refine ⟨cdivw (by decide) (bt_lit (by decide)) (by decide), ?_⟩
        rw [e]
        exact ⟨(c + 1) / 2, n + 1, _, rfl, by omega, by omega, by omega, .inr hs⟩
    · rename_i hge
      walk_at "dl"
      exact ⟨c, n, _, rfl, hF, hc, hc2, .inl (by omega)⟩
  · obtain ⟨c, n, s, rfl, hF, hc, hc2, hh⟩ := hP
    rw [rng_len] at hh
    have hge : c ≤ a := half_end hh (Nat.lt_of_le_of_lt b2 (by decide)) a1
    rw [F_le hge] at hF
    walk_at "dl"
    rw [show (n : Int) + a - c = ((F a b : Nat) : Int) by omega]
    exact fin
theorem prs_pre {n i : Nat} {l : List Nat} (h : prs n (l.take i) = none) : prs n l = none := by
  have := prs_app (l.take i) (l.drop i) n
  rw [List.take_append_drop, h] at this
  exact this
theorem signs_get {l : List Nat} {i : Nat} {d : D} (h : (l.map fun c => D.str (tx [c]))[i]? = some d) : ∃ c, l[i]? = some c ∧ d = .str (tx [c]) := by
  rw [List.getElem?_map] at h
  obtain ⟨c, hc, rfl⟩ := Option.map_eq_some_iff.mp h
  exact ⟨c, hc, rfl⟩
def sp_pressed (C : Addr) : PSp := fun ds q x => ∃ (n : Nat) (l : List Nat), ds = [.int n, .str (tx l)] ∧ Lo l ∧ Bd n l ∧ (∀ m, prs n l = some m → q (.d (.int (m : Nat)))) ∧ (prs n l = none → x C)
theorem pressed_ok (ds q x) (h : sp_pressed C ds q x) : T_pressed C (SEr q x) (startE N_pressed ds) := by
  obtain ⟨n, l, rfl, hl, hb, h1, h2⟩ := h
  unfold T_pressed
  (walk_at "dl"; repeat (simp only [signs_tx, List.length_map]; walk_at "dl"))
  refine ⟨fun i ρ => ∃ (m : Nat) (s : Sl), ρ = [.va (.int m), .va (.str (tx l)), s] ∧ prs n (l.take i) = some m, ⟨n, .no, rfl, rfl⟩, fun i d ρ hd hP => ?_, fun ρ hP => ?_⟩
  · obtain ⟨c, hc, rfl⟩ := signs_get hd
    obtain ⟨m, s, rfl, hm⟩ := hP
    have hm2 := hb i m hm
    have es : prs n (l.take (i + 1)) = prs m [c] := by rw [take_snoc hc, prs_snoc, hm]; rfl
    rw [prs] at es
    (walk_at "dl"; repeat (simp only [lD, lM, shT (Lo.one (hl.get hc)), shT (Lo.one (show 68 < 1000 by decide)), shT (Lo.one (show 77 < 1000 by decide)), eqS, tx1]; walk_at "dl"))
    split
    · rename_i z
      rw [if_pos z] at es
      walk_at "dl"
      refine ⟨cmulx (bt_lit (by decide)) (show Bt 200 (m : Int) by unfold Bt; omega) (by decide), ?_⟩
      exact ⟨2 * m, _, by rw [Int.natCast_mul]; rfl, es⟩
    · rename_i z
      rw [if_neg z] at es
      (walk_at "dl"; repeat (simp only [lD, lM, shT (Lo.one (hl.get hc)), shT (Lo.one (show 77 < 1000 by decide)), eqS, tx1]; walk_at "dl"))
      split
      · rename_i z1
        walk_at "dl"
        split
        · rename_i z2
          rw [if_pos ⟨z1, by omega⟩] at es
          walk_at "dl"
          exact ⟨m - 1, _, by rw [show ((m - 1 : Nat) : Int) = (m : Int) - 1 by omega], es⟩
        · rename_i z2
          rw [if_neg (fun z => z2 (by omega))] at es
          walk_at "dl"
          exact h2 (prs_pre es)
      · rename_i z1
        rw [if_neg (fun z => z1 z.1)] at es
        walk_at "dl"
        exact h2 (prs_pre es)
  · obtain ⟨m, s, rfl, hm⟩ := hP
    rw [List.length_map, List.take_length] at hm
    walk_at "dl"
    exact h1 m hm
end
end K81

set_option Elab.async false
set_option linter.all false
set_option maxRecDepth 100000
set_option maxHeartbeats 4000000
namespace K81
open PySem PySem.Spec PyProof.Rows L2 DL LW
section
variable {C C2 C3 : Addr}
theorem pc_lo (b : Nat) : Lo (pc b) := by
  unfold pc
  split
  · exact Lo.one (by decide)
  · exact (Lo.one (c := 68) (by decide)).app (Lo.one (c := 77) (by decide))
theorem P_lo {a : Nat} (ha : 1 ≤ a) : ∀ (n b : Nat), b ≤ n → Lo (P a b)
  | 0, b, h => by rw [P_le (by omega)]; exact Lo.nil
  | n + 1, b, h => by
    by_cases hb : a < b
    · rw [P_gt ha hb]
      exact (P_lo ha n _ (by omega)).app (pc_lo b)
    · rw [P_le (by omega)]
      exact Lo.nil
theorem told_lo {a b : Nat} (ha : 1 ≤ a) : Lo (told a b) := (Lo.rep (by decide)).app (P_lo ha b b (Nat.le_refl b))
def sp_tp (C C2 : Addr) : PSp := fun ds q x => ∃ a b : Int, ds = [.int a, .int b] ∧ (∀ a' b' : Nat, a = (a' : Int) → b = (b' : Int) → In2 a' b' → (F a' b' ≤ 10000 → q (.d (.str (tx (told a' b'))))) ∧ (10000 < F a' b' → x C2)) ∧ (¬ ((1 ≤ a ∧ a ≤ 1000000000000000000000000000000) ∧ 1 ≤ b ∧ b ≤ 1000000000000000000000000000000) → x C)
theorem tp_ok (ds q x) (h : sp_tp C C2 ds q x) : T_told_presses (sp_fewest C) C2 (SEr q x) (startE N_told_presses ds) := by
  obtain ⟨A, B, rfl, h1, h2⟩ := h
  unfold T_told_presses
  walk_at "dl"
  refine ⟨_, _, rfl, fun a b e1 e2 hI => ?_, h2⟩
  subst e1
  subst e2
  obtain ⟨y, n⟩ := h1 a b rfl rfl hI
  obtain ⟨a1, a2, b1, b2⟩ := hI
  clear h1 h2
  walk_at "dl"
  split
  · rename_i z
    walk_at "dl"
    exact n (by omega)
  rename_i z
  have hF10 : F a b ≤ 10000 := by omega
  have fin := y hF10
  have hFe := F_eq a1 b b (Nat.le_refl b) b1
  clear y n
  (walk_at "dl"; repeat (simp only [lE]; walk_at "dl"))
  refine ⟨fun m ρ => ∃ (c : Nat) (l : List Nat), ρ = [.va (.int a), .va (.int c), .va (.str (tx l))] ∧ P a b = P a c ++ l ∧ E a b = E a c ∧ m = c, ⟨b, b, [], rfl, by rw [List.append_nil], rfl, rfl⟩, fun m ρ hP => ?_⟩
  obtain ⟨c, l, rfl, hP, hE, rfl⟩ := hP
  have hlen := congrArg List.length hP
  rw [List.length_append] at hlen
  walk_at "dl"
  split
  · rename_i hlt
    have hlt : a < m := by omega
    rw [P_gt a1 hlt] at hP
    rw [E_gt a1 hlt] at hE
    have e3 := half_int m
    unfold pc at hP
    walk_at "dl"
    refine ⟨by decide, ?_⟩
    split
    · rename_i z
      rw [if_pos (by omega)] at hP
      (walk_at "dl"; repeat (simp only [lD, lDM, tx_app, tx_length]; walk_at "dl"))
      refine ⟨show _ + _ ≤ sizeLine by rw [sizeLine_eq]; show 1 + l.length ≤ _; omega, ?_⟩
      refine ⟨cdivw (by decide) (bt_lit (by decide)) (by decide), ?_⟩
      rw [e3]
      exact ⟨(m + 1) / 2, by omega, (m + 1) / 2, _, rfl, by rw [hP, List.append_assoc]; rfl, hE, rfl⟩
    · rename_i z
      rw [if_neg (by omega)] at hP
      (walk_at "dl"; repeat (simp only [lD, lDM, tx_app, tx_length]; walk_at "dl"))
      refine ⟨show _ + _ ≤ sizeLine by rw [sizeLine_eq]; show 2 + l.length ≤ _; omega, ?_⟩
      refine ⟨cdivw (by decide) (bt_lit (by decide)) (by decide), ?_⟩
      rw [e3]
      exact ⟨(m + 1) / 2, by omega, (m + 1) / 2, _, rfl, by rw [hP, List.append_assoc]; rfl, hE, rfl⟩
  · rename_i hge
    have hge : m ≤ a := by omega
    rw [P_le hge, List.nil_append] at hP
    rw [E_le hge] at hE
    have e : ((a : Int) - m).toNat = a - E a b := by omega
    rw [hP] at hFe
    rw [P_le hge] at hlen
    (walk_at "dl"; repeat (simp only [lM, tx_length, e, repS_tx, tx_app, List.length_replicate]; walk_at "dl"))
    refine ⟨by omega, by omega, ?_⟩
    refine ⟨show _ + _ ≤ sizeLine by rw [sizeLine_eq]; omega, ?_⟩
    rw [← hP]
    exact fin
variable {wd : Addr → Option Str}
def sp_told (C : Addr) : PSp := fun ds q _ => ∃ w one two, ds = [.int w, .int one, two] ∧
  (w = 0 → ∃ (n : Nat) (l : List Nat), one = (n : Int) ∧ two = .str (tx l) ∧ Lo l ∧ Bd n l ∧ (∀ m, prs n l = some m → q (.d (.int (m : Nat)))) ∧ (prs n l = none → q (.d (.str "refused")))) ∧
  (w ≠ 0 → ∃ b : Int, two = .int b ∧ (¬ ((1 ≤ one ∧ one ≤ 1000000000000000000000000000000) ∧ 1 ≤ b ∧ b ≤ 1000000000000000000000000000000) → q (.d (.str "range"))) ∧
    (∀ a' b' : Nat, one = (a' : Int) → b = (b' : Int) → In2 a' b' → (w = 1 → q (.d (.int (F a' b' : Nat)))) ∧ (w ≠ 1 → (F a' b' ≤ 10000 → q (.d (.str (tx (told a' b'))))) ∧ (10000 < F a' b' → q (.d (.str "much"))))))
theorem told_ok (h1 : wd C = some "range") (h2 : wd C2 = some "refused") (h3 : wd C3 = some "much") (ds q x) (h : sp_told C ds q x) : T__law_told (sp_pressed C2) (sp_fewest C) (sp_tp C C3) wd (SEr q x) (startE N__law_told ds) := by
  obtain ⟨w, one, two, rfl, p, r⟩ := h
  unfold T__law_told
  walk_at "dl"
  split
  · rename_i e
    obtain ⟨n, l, rfl, rfl, hl, hb, y, z⟩ := p e
    walk_at "dl"
    refine ⟨n, l, rfl, hl, hb, fun m hm => ?_, fun hm => ⟨by decide, ?_⟩⟩
    · walk_at "dl"
      exact y m hm
    · rw [h2]
      exact z hm
  rename_i e
  obtain ⟨b, rfl, y, z⟩ := r e
  walk_at "dl"
  split
  · rename_i e1
    walk_at "dl"
    refine ⟨_, _, rfl, fun a' b' x1 x2 x3 => ?_, fun hm => ⟨by decide, ?_⟩⟩
    · walk_at "dl"
      exact (z a' b' x1 x2 x3).1 e1
    · rw [h1]
      exact y hm
  · rename_i e1
    walk_at "dl"
    refine ⟨_, _, rfl, fun a' b' x1 x2 x3 => ⟨fun hF => ?_, fun hF => ⟨by decide, ?_⟩⟩, fun hm => ⟨by decide, ?_⟩⟩
    · walk_at "dl"
      exact ((z a' b' x1 x2 x3).2 e1).1 hF
    · rw [h3]
      exact ((z a' b' x1 x2 x3).2 e1).2 hF
    · rw [h1]
      exact y hm
end
/-! the levels -/
structure DR (z : LS) (kds : List (Key × D)) : Prop where
  val : ∀ o : Nat, valD kds (.inl (o : Int)) = (look z.seen o).map fun v => D.int (v : Nat)
  len : kds.length ≤ z.seen.length
  lat : z.later.length ≤ z.seen.length
  pos : ∀ o ∈ z.later, 1 ≤ o ∧ o ≤ 260
theorem len_visit (s o : Nat) (z : LS) : z.seen.length ≤ (visit s z o).seen.length := by
  unfold visit
  split
  · exact Nat.le_succ _
  · exact Nat.le_refl _
theorem len_fold (s : Nat) : ∀ (l : List Nat) (z : LS), z.seen.length ≤ (l.foldl (near s) z).seen.length
  | [], z => Nat.le_refl _
  | o :: l, z => Nat.le_trans (Nat.le_trans (len_visit s _ z) (len_visit s _ _)) (len_fold s l _)
theorem len_lev (a s : Nat) : ∀ k, (lev a s).seen.length ≤ (lev a (s + k)).seen.length
  | 0 => Nat.le_refl _
  | k + 1 => Nat.le_trans (len_lev a s k) (len_fold (s + k) (lev a (s + k)).later.reverse ⟨(lev a (s + k)).mask, (lev a (s + k)).seen, []⟩)
abbrev intsD (l : List Nat) : List D := l.map fun n => D.int (n : Nat)
end K81

set_option Elab.async false
set_option linter.all false
set_option maxRecDepth 100000
set_option maxHeartbeats 4000000
namespace K81
open PySem PySem.Spec PyProof.Rows L2 DL LW
theorem visit_no {s o : Nat} {z : LS} (h : ¬ ((1 ≤ o ∧ o ≤ 260) ∧ look z.seen o = none)) (m : Mk z) : visit s z o = z := by
  unfold visit
  rw [if_neg]
  intro e
  rw [Bool.and_eq_true, Bool.and_eq_true, Nat.ble_eq, Nat.ble_eq, m o] at e
  refine h ⟨e.1, ?_⟩
  cases h : look z.seen o with
  | none => rfl
  | some v => rw [h] at e; exact nomatch e.2
theorem visit_yes {s o : Nat} {z : LS} (h1 : 1 ≤ o) (h2 : o ≤ 260) (h : look z.seen o = none) (m : Mk z) : visit s z o = ⟨z.mask ||| 2 ^ o, (o, s + 1) :: z.seen, o :: z.later⟩ := by
  unfold visit
  rw [if_pos]
  rw [Bool.and_eq_true, Bool.and_eq_true, Nat.ble_eq, Nat.ble_eq, m o, h]
  exact ⟨⟨h1, h2⟩, rfl⟩
abbrev Vis1 : ST := (sIf (bAnd (tT (tCh fLe fLe (tK (.int 1)) (tV 7) (tV 1))) (tT (t2 (fInD true) (tV 7) (tV 2)))) (sSeq (sAsg (t2 fAdd (tV 4) (tK (.int 1))) (gSetD (tV 2) (tV 7)))
    (sExpr (tAppend (tV 5) (aCons (tV 7) aNil)))) sNext)
theorem visit_ok (e : SE) {a s : Nat} {z : LS} {kds : List (Key × D)} {s3 s6 : Sl} {o : Int} (h : DR z kds) (m : Mk z) (hz : z.seen.length ≤ 1000)
    (fin : ∀ kds', DR (visit s z o.toNat) kds' → e.nx [.va (.int a), .va (.int 260), .ow (.dic kds'), s3, .va (.int s), .ow (.lst (intsD (visit s z o.toNat).later.reverse)), s6, .va (.int o)]) :
    Vis1 e [.va (.int a), .va (.int 260), .ow (.dic kds), s3, .va (.int s), .ow (.lst (intsD z.later.reverse)), s6, .va (.int o)] := by
  unfold Vis1
  walk_at "dl"
  split
  · rename_i h1
    obtain ⟨o, rfl⟩ := Int.eq_ofNat_of_zero_le (show 0 ≤ o by omega)
    rw [Int.toNat_natCast] at fin
    walk_at "dl"
    split
    · rename_i h2
      have hv := h.val o
      (walk_at "dl"; repeat (simp only [hv, Option.isSome_map]; walk_at "dl"))
      cases hk : look z.seen o with
      | some v =>
        rw [visit_no (fun y => by rw [hk] at y; exact nomatch y.2) m] at fin
        (walk_at "dl"; repeat (simp only [Option.isSome_some]; walk_at "dl"))
        exact fin kds h
      | none =>
        rw [visit_yes (by omega) (by omega) hk m] at fin
        (walk_at "dl"; repeat (simp only [Option.isSome_none]; walk_at "dl"))
        refine ⟨Nat.lt_of_le_of_lt (Nat.le_trans h.len hz) (by decide), ?_⟩
        refine ⟨Nat.lt_of_le_of_lt (show _ ≤ 1000 by rw [List.length_map, List.length_reverse]; exact Nat.le_trans h.lat hz) (by decide), ?_⟩
        have hd : DR ⟨z.mask ||| 2 ^ o, (o, s + 1) :: z.seen, o :: z.later⟩ (putD kds (.inl (o : Int)) (.int ((s : Int) + 1))) := by
          refine ⟨fun j => ?_, Nat.le_trans (putD_len _ _ _) (Nat.succ_le_succ h.len), Nat.succ_le_succ h.lat, fun j hj => ?_⟩
          · rw [valD_put, look]
            by_cases e : o = j
            · subst e
              rw [if_pos rfl, if_pos (Nat.beq_refl o)]
              rfl
            · rw [if_neg (fun z => e (by have := Sum.inl.inj z; omega)), if_neg (fun z => e (Nat.eq_of_beq_eq_true z))]
              exact h.val j
          · rcases List.mem_cons.mp hj with rfl | hj
            · omega
            · exact h.pos j hj
        have := fin _ hd
        rw [List.reverse_cons] at this
        unfold intsD at this
        rw [List.map_append] at this
        exact this
    · rename_i h2
      rw [visit_no (fun y => h2 (by omega)) m] at fin
      walk_at "dl"
      exact fin kds h
  · rename_i h1
    rw [visit_no (fun y => h1 (by omega)) m] at fin
    walk_at "dl"
    exact fin kds h
def sp_levels : PSp := fun ds q x => ∃ a : Nat, ds = [.int a, .int 260] ∧ (1 ≤ a ∧ a ≤ 260) ∧ (lev a 200).seen.length ≤ 1000 ∧ ∀ kds, (∀ o : Nat, valD kds (.inl (o : Int)) = (look (lev a 200).seen o).map fun v => D.int (v : Nat)) → q (.n (.dic kds))
theorem levels_ok (ds q x) (h : sp_levels ds q x) : T__law_levels (SEr q x) (startE N__law_levels ds) := by
  obtain ⟨a, rfl, ha, hlen, fin⟩ := h
  have hl : ∀ s, s ≤ 200 → (lev a s).seen.length ≤ 1000 := fun s hs => by
    have := len_lev a s (200 - s)
    rw [show s + (200 - s) = 200 by omega] at this
    omega
  unfold T__law_levels
  (walk_at "dl"; repeat (simp only [keyD]; walk_at "dl"))
  refine ⟨by decide, by decide, ?_⟩
  refine ⟨fun i ρ => ∃ (kds : List (Key × D)) (s3 s4 s5 s6 s7 : Sl), ρ = [.va (.int a), .va (.int 260), .ow (.dic kds), s3, s4, s5, s6, s7] ∧ DR (lev a i) kds ∧ (s3 = .ow (.lst (intsD (lev a i).later.reverse)) ∨ s3 = .va (.lst (intsD (lev a i).later.reverse))), ⟨_, _, _, _, _, _, rfl, ⟨fun o => ?_, Nat.le_refl _, Nat.le_refl _, fun o ho => ?_⟩, .inl rfl⟩, fun i d ρ hd hP => ?_, fun ρ hP => ?_⟩
  · show valD [(.inl (a : Int), .int 0)] (.inl (o : Int)) = (look [(a, 0)] o).map _
    rw [look]
    unfold valD
    by_cases e : a = o
    · subst e
      rw [if_pos (Nat.beq_refl a)]
      simp
    · rw [if_neg (fun z => e (Nat.eq_of_beq_eq_true z))]
      simp [look]
      omega
  · rw [List.mem_singleton.mp ho]
    exact ha
  · obtain ⟨hi, rfl⟩ := rng_get hd
    obtain ⟨kds, s3, s4, s5, s6, s7, rfl, hD, hs3⟩ := hP
    generalize hL : (lev a i).later.reverse = lv at hs3
    have hlev : lev a (i + 1) = lv.foldl (near i) ⟨(lev a i).mask, (lev a i).seen, []⟩ := by
      rw [← hL]; rfl
    have hl1 := hl (i + 1) (by omega)
    have hpos : ∀ o ∈ lv, 1 ≤ o ∧ o ≤ 260 := fun o ho => hD.pos o (by rw [← List.mem_reverse, hL]; exact ho)
    have hmk : Mk ⟨(lev a i).mask, (lev a i).seen, []⟩ := mk_lev a i
    generalize hz0 : (⟨(lev a i).mask, (lev a i).seen, []⟩ : LS) = z0 at hlev hmk
    rcases hs3 with rfl | rfl
    all_goals
      walk_at "dl"
      refine ⟨fun j ρ => ∃ (kds : List (Key × D)) (s6 s7 : Sl), ρ = [.va (.int a), .va (.int 260), .ow (.dic kds), .va (.lst (intsD lv)), .va (.int (i : Nat)), .ow (.lst (intsD ((lv.take j).foldl (near i) z0).later.reverse)), s6, s7] ∧ DR ((lv.take j).foldl (near i) z0) kds, ⟨_, _, _, by rw [Int.zero_add, ← hz0]; rfl, by rw [← hz0]; exact ⟨hD.val, hD.len, Nat.zero_le _, fun o ho => nomatch ho⟩⟩, fun j d ρ hd hP => ?_, fun ρ hP => ?_⟩
      · obtain ⟨kds, s6, s7, rfl, hD⟩ := hP
        rw [List.getElem?_map] at hd
        obtain ⟨o, ho, rfl⟩ := Option.map_eq_some_iff.mp hd
        have hop := hpos o (List.mem_of_getElem? ho)
        have ez : (lv.take (j + 1)).foldl (near i) z0 = near i ((lv.take j).foldl (near i) z0) o := by
          rw [take_snoc ho, List.foldl_append]
          rfl
        have hz : ((lv.take j).foldl (near i) z0).seen.length ≤ 1000 ∧ (visit i ((lv.take j).foldl (near i) z0) (2 * o)).seen.length ≤ 1000 := by
          have h1 := len_visit i (2 * o) ((lv.take j).foldl (near i) z0)
          have h2 := len_visit i (o - 1) (visit i ((lv.take j).foldl (near i) z0) (2 * o))
          have h3 := len_fold i (lv.drop (j + 1)) (near i ((lv.take j).foldl (near i) z0) o)
          rw [← ez, ← List.foldl_append, List.take_append_drop, ← hlev, ez] at h3
          have h4 : (near i ((lv.take j).foldl (near i) z0) o).seen.length = (visit i (visit i ((lv.take j).foldl (near i) z0) (2 * o)) (o - 1)).seen.length := rfl
          omega
        have hm := mk_fold (lv.take j) (s := i) hmk
        obtain ⟨z, hzd⟩ : ∃ z, z = (lv.take j).foldl (near i) z0 := ⟨_, rfl⟩
        rw [← hzd] at hz hm hD ez ⊢
        walk_at "dl"
        have bo : Bt 64 (o : Int) := by unfold Bt; omega
        refine ⟨by walk_at "cm", ?_⟩
        refine ⟨fun t ρ => ∃ (kds : List (Key × D)) (s7 : Sl) (y : LS), ρ = [.va (.int a), .va (.int 260), .ow (.dic kds), .va (.lst (intsD lv)), .va (.int (i : Nat)), .ow (.lst (intsD y.later.reverse)), .va (.int (o : Nat)), s7] ∧ DR y kds ∧ (t = 0 → y = z) ∧ (t = 1 → y = visit i z (2 * o)) ∧ (t = 2 → y = near i z o), ⟨_, _, _, rfl, hD, fun _ => rfl, (fun h => nomatch h), (fun h => nomatch h)⟩, fun t d ρ hd hP => ?_, fun ρ hP => ?_⟩
        · obtain ⟨kds, s7, y, rfl, hE, y0, y1, y2⟩ := hP
          have ht : t < 2 := (List.getElem?_eq_some_iff.mp hd).1
          rcases (by omega : t = 0 ∨ t = 1) with rfl | rfl
          · cases hd
            obtain rfl := y0 rfl
            change Vis1 _ [.va (.int a), .va (.int 260), .ow (.dic kds), .va (.lst (intsD lv)), .va (.int (i : Nat)), .ow (.lst (intsD y.later.reverse)), .va (.int (o : Nat)), .va (.int (2 * (o : Int)))]
            refine visit_ok _ hE hm hz.1 fun kds' hD' => ?_
            rw [show (2 * (o : Int)).toNat = 2 * o by omega] at hD' ⊢
            exact ⟨_, _, _, rfl, hD', (fun h => nomatch h), fun _ => rfl, (fun h => nomatch h)⟩
          · cases hd
            obtain rfl := y1 rfl
            change Vis1 _ [.va (.int a), .va (.int 260), .ow (.dic kds), .va (.lst (intsD lv)), .va (.int (i : Nat)), .ow (.lst (intsD (visit i z (2 * o)).later.reverse)), .va (.int (o : Nat)), .va (.int ((o : Int) - 1))]
            refine visit_ok _ hE (mk_visit hm) hz.2 fun kds' hD' => ?_
            rw [show ((o : Int) - 1).toNat = o - 1 by omega] at hD' ⊢
            exact ⟨_, _, _, rfl, hD', (fun h => nomatch h), (fun h => nomatch h), fun _ => rfl⟩
        · obtain ⟨kds, s7, y, rfl, hE, y0, y1, y2⟩ := hP
          obtain rfl := y2 rfl
          exact ⟨_, _, _, by rw [ez], by rw [ez]; exact hE⟩
      · obtain ⟨kds, s6, s7, rfl, hD⟩ := hP
        rw [List.length_map, List.take_length, ← hlev] at hD ⊢
        walk_at "dl"
        exact ⟨_, _, _, _, _, _, rfl, hD, .inr rfl⟩
  · obtain ⟨kds, s3, s4, s5, s6, s7, rfl, hD, hs3⟩ := hP
    rw [rng_len] at hD
    walk_at "dl"
    exact fin kds hD.val
end K81

set_option Elab.async false
set_option linter.all false
set_option maxRecDepth 100000
set_option maxHeartbeats 4000000
namespace K81
open PySem PySem.Spec PyProof.Rows L2 DL LW
def check2 (z : List (Nat × Nat)) (a : Nat) : Bool := Nat.ble z.length 1000 && (List.range 120).all fun b => match look z (b + 1) with
    | some v => Nat.beq v (Ff 7 a (b + 1))
    | none => false
theorem chkA : ((List.range 30).all fun a => check2 (lev (a + 1) 200).seen (a + 1)) = true := by decide +kernel
theorem chk_len {a : Nat} (h1 : 1 ≤ a) (h2 : a ≤ 30) : (lev a 200).seen.length ≤ 1000 := by
  have := List.all_eq_true.mp chkA (a - 1) (List.mem_range.mpr (by omega))
  rw [show a - 1 + 1 = a by omega] at this
  exact Nat.le_of_ble_eq_true (Bool.and_eq_true_iff.mp this).1
theorem chk_val {a b : Nat} (h1 : 1 ≤ a) (h2 : a ≤ 30) (h3 : 1 ≤ b) (h4 : b ≤ 120) : look (lev a 200).seen b = some (F a b) := by
  have := List.all_eq_true.mp chkA (a - 1) (List.mem_range.mpr (by omega))
  rw [show a - 1 + 1 = a by omega] at this
  have := List.all_eq_true.mp (Bool.and_eq_true_iff.mp this).2 (b - 1) (List.mem_range.mpr (by omega))
  rw [show b - 1 + 1 = b by omega] at this
  split at this
  · rename_i v e
    rw [e, Nat.eq_of_beq_eq_true this, Ff_eq h1 7 b (by omega)]
  · cases this
end K81

set_option Elab.async false
set_option linter.all false
set_option maxRecDepth 100000
set_option maxHeartbeats 4000000
namespace K81
open PySem PySem.Spec PyProof.Rows L2 DL LW
section
variable {C : Addr} {q : RV → Prop} {x : Addr → Prop}
theorem tlF {a b : Nat} (I : In2 a b) (h : q (.d (.int (F a b : Nat)))) : sp_told C [.int 1, .int a, .int b] q x :=
  ⟨1, a, .int b, rfl, fun z => absurd z (by decide), fun _ => ⟨b, rfl, fun z => absurd (by have := I.a1; have := I.a2; have := I.b1; have := I.b2; omega) z, fun a' b' e1 e2 _ => by
    obtain rfl : a' = a := by omega
    obtain rfl : b' = b := by omega
    exact ⟨fun _ => h, fun z => absurd rfl z⟩⟩⟩
theorem tlT {a b : Nat} (I : In2 a b) (h1 : F a b ≤ 10000 → q (.d (.str (tx (told a b))))) (h2 : 10000 < F a b → q (.d (.str "much"))) : sp_told C [.int 2, .int a, .int b] q x :=
  ⟨2, a, .int b, rfl, fun z => absurd z (by decide), fun _ => ⟨b, rfl, fun z => absurd (by have := I.a1; have := I.a2; have := I.b1; have := I.b2; omega) z, fun a' b' e1 e2 _ => by
    obtain rfl : a' = a := by omega
    obtain rfl : b' = b := by omega
    exact ⟨fun z => absurd z (by decide), fun _ => ⟨h1, h2⟩⟩⟩⟩
theorem tlP {n : Nat} {l : List Nat} (h1 : Lo l) (h2 : Bd n l) (h3 : ∀ m, prs n l = some m → q (.d (.int (m : Nat)))) (h4 : prs n l = none → q (.d (.str "refused"))) : sp_told C [.int 0, .int n, .str (tx l)] q x :=
  ⟨0, n, _, rfl, fun _ => ⟨n, l, rfl, rfl, h1, h2, h3, h4⟩, fun z => absurd rfl z⟩
theorem tlR {w a b : Int} (hw : w ≠ 0) (h : ¬ ((1 ≤ a ∧ a ≤ 1000000000000000000000000000000) ∧ 1 ≤ b ∧ b ≤ 1000000000000000000000000000000)) (h1 : q (.d (.str "range"))) : sp_told C [.int w, .int a, .int b] q x :=
  ⟨w, a, _, rfl, fun z => absurd z hw, fun _ => ⟨b, rfl, fun _ => h1, fun a' b' e1 e2 I => absurd (by have := I.a1; have := I.a2; have := I.b1; have := I.b2; omega) h⟩⟩
theorem al1 {i : Int} (h : q (.d (.bl true))) : sp_alikeN 1 [.int i, .int i] q x := ⟨_, rfl, okA_i, h⟩
theorem al1s {z : Str} (hz : shD (.str z)) (h : q (.d (.bl true))) : sp_alikeN 1 [.str z, .str z] q x := ⟨_, rfl, okA_s hz, h⟩
end
theorem cut_end {R T : List Nat} : cutS (tx (R ++ T)) none (some (((tx (R ++ T)).length : Int) - ((tx T).length : Int))) = tx R := by
  rw [tx_length, tx_length, List.length_append, show ((R.length + T.length : Nat) : Int) - (T.length : Int) = (R.length : Int) by omega, cut_tx (by rw [List.length_append]; omega), List.take_left]
theorem sum_ones : ∀ l : List Nat, (List.map (fun x : Str => x.length) (l.map fun c => tx [c])).sum = l.length
  | [] => rfl
  | c :: l => by
    rw [List.map_cons, List.map_cons, List.sum_cons, sum_ones l, tx_length, List.length_cons, List.length_cons]
    show 0 + 1 + l.length = _
    omega
theorem shRef : shD (.str "refused") = True := eq_true (show SeqAt.shaped _ = true by decide +kernel)
theorem sh5 : shD (.lst (List.replicate 5 (.str "refused"))) ∧ shD (.lst (List.replicate (Int.toNat 5) [D.str "refused"]).flatten) ∧ eqD (.lst (List.replicate 5 (.str "refused"))) (.lst (List.replicate (Int.toNat 5) [D.str "refused"]).flatten) = true :=
  ⟨show SeqAt.shaped _ = true by decide +kernel, show SeqAt.shaped _ = true by decide +kernel, by decide +kernel⟩
theorem sh7 : shD (.lst (List.replicate 7 (.str "range"))) ∧ shD (.lst (List.replicate (Int.toNat 7) [D.str "range"]).flatten) ∧ eqD (.lst (List.replicate 7 (.str "range"))) (.lst (List.replicate (Int.toNat 7) [D.str "range"]).flatten) = true :=
  ⟨show SeqAt.shaped _ = true by decide +kernel, show SeqAt.shaped _ = true by decide +kernel, by decide +kernel⟩
theorem told_M {a b : Nat} (h : b ≤ a) : told a b = List.replicate (a - b) 77 := by
  rw [told, E_le h, P_le h, List.append_nil]
theorem shMuch : shD (.str "much") = True := eq_true (show SeqAt.shaped _ = true by decide +kernel)
def sp_law : PSp := fun ds q _ => ∃ ns : List Int, ds = [.fz (ns.map .int)] ∧ ns.length ≤ 63 ∧ (∀ z ∈ ns, Bt 1048576 z) ∧ q (.d (.bl true))
variable {C : Addr}
theorem law_ok (ds q x) (h : sp_law ds q x) : T_law sp_draws sp_take sp_levels (sp_alikeN 1) (sp_told C) sp_lfew (SEr q x) (startE N_law ds) := by
  obtain ⟨ns, rfl, hl, hb, h⟩ := h
  have e62 : (2 : Int) ^ 62 = 4611686018427387904 := by decide
  have e30 : (10 : Int) ^ Int.toNat 30 = 1000000000000000000000000000000 := by decide
  unfold T_law
  refine sSeq_via (fun ρ' => ∃ (rs : List Int), ρ' = [.va (.fz (ns.map .int)), .ow (.lst (rs.map .int)), .no, .no, .no, .no, .no, .no, .no, .no, .no, .no, .no, .no, .no, .no, .no, .no, .no, .no, .no, .no, .no]) (fun N hN => ?_) (fun ρ' hρ => ?_)
  · walk_at "dl"
    refine ⟨ns, rfl, hl, hb, fun rs1 => ?_⟩
    walk_at "dl"
    exact hN _ ⟨_, rfl⟩
  obtain ⟨rs, rfl⟩ := hρ
  clear hl hb
  refine sSeq_via (fun ρ' => ∃ (rs : List Int) (a : Nat), (1 ≤ a ∧ a ≤ 30) ∧ ρ' = [.va (.fz (ns.map .int)), .ow (.lst (rs.map .int)), .va (.int a), .no, .no, .no, .no, .no, .no, .no, .no, .no, .no, .no, .no, .no, .no, .no, .no, .no, .no, .no, .no]) (fun N hN => ?_) (fun ρ' hρ => ?_)
  · walk_at "dl"
    refine ⟨_, _, rfl, rfl, by decide, fun r rs' r0 r1 => ?_⟩
    obtain ⟨t, rfl⟩ := Int.eq_ofNat_of_zero_le r0
    walk_at "dl"
    exact hN _ ⟨rs', 1 + t, ⟨by omega, by omega⟩, by rw [Int.natCast_add]; rfl⟩
  obtain ⟨rs, a, ⟨a0, a1⟩, rfl⟩ := hρ
  refine sSeq_via (fun ρ' => ∃ (kds : List (Key × D)), (∀ o : Nat, valD kds (.inl (o : Int)) = (look (lev a 200).seen o).map fun v => D.int (v : Nat)) ∧ ρ' = [.va (.fz (ns.map .int)), .ow (.lst (rs.map .int)), .va (.int a), .ow (.dic kds), .no, .no, .no, .no, .no, .no, .no, .no, .no, .no, .no, .no, .no, .no, .no, .no, .no, .no, .no]) (fun N hN => ?_) (fun ρ' hρ => ?_)
  · walk_at "dl"
    refine ⟨a, rfl, ⟨a0, by omega⟩, chk_len a0 a1, fun kds hk => ?_⟩
    walk_at "dl"
    exact hN _ ⟨_, hk, rfl⟩
  obtain ⟨kds, hk, rfl⟩ := hρ
  refine sSeq_via (fun ρ' => ∃ (rs : List Int) (s4 s5 : Sl), ρ' = [.va (.fz (ns.map .int)), .ow (.lst (rs.map .int)), .va (.int a), .ow (.dic kds), s4, s5, .no, .no, .no, .no, .no, .no, .no, .no, .no, .no, .no, .no, .no, .no, .no, .no, .no]) (fun N hN => ?_) (fun ρ' hρ => ?_)
  · walk_at "dl"
    refine ⟨by decide, by decide, ?_⟩
    refine ⟨fun i ρ => ∃ (rs : List Int) (s4 s5 : Sl), ρ = [.va (.fz (ns.map .int)), .ow (.lst (rs.map .int)), .va (.int a), .ow (.dic kds), s4, s5, .no, .no, .no, .no, .no, .no, .no, .no, .no, .no, .no, .no, .no, .no, .no, .no, .no], ⟨_, _, _, rfl⟩, fun i d ρ hd hP => ?_, fun ρ hP => hN _ hP⟩
    obtain ⟨hi, rfl⟩ := rng_get hd
    obtain ⟨rs, s4, s5, rfl⟩ := hP
    refine sSeq_via (fun ρ' => ∃ (rs : List Int) (s4 : Sl) (b : Nat), (1 ≤ b ∧ b ≤ 120) ∧ ρ' = [.va (.fz (ns.map .int)), .ow (.lst (rs.map .int)), .va (.int a), .ow (.dic kds), s4, .va (.int b), .no, .no, .no, .no, .no, .no, .no, .no, .no, .no, .no, .no, .no, .no, .no, .no, .no]) (fun N hN => ?_) (fun ρ' hρ => ?_)
    · walk_at "dl"
      refine ⟨_, _, rfl, rfl, by decide, fun r rs' r0 r1 => ?_⟩
      obtain ⟨t, rfl⟩ := Int.eq_ofNat_of_zero_le r0
      walk_at "dl"
      exact hN _ ⟨_, _, 1 + t, ⟨by omega, by omega⟩, by rw [Int.natCast_add]; rfl⟩
    obtain ⟨rs, s4, b, ⟨b0, b1⟩, rfl⟩ := hρ
    have hv := hk b
    rw [chk_val a0 a1 b0 b1] at hv
    have I : In2 a b := ⟨a0, by omega, b0, by omega⟩
    walk_at "dl"
    refine tlF I ?_
    (walk_at "dl"; repeat (simp only [hv, Option.map_some]; walk_at "dl"))
    refine al1 ?_
    walk_at "dl"
    refine ⟨_, _, rfl, I, ?_⟩
    (walk_at "dl"; repeat (simp only [hv, Option.map_some]; walk_at "dl"))
    refine al1 ?_
    walk_at "dl"
    exact ⟨_, _, _, rfl⟩
  obtain ⟨rs, s4, s5, rfl⟩ := hρ
  refine sSeq_via (fun ρ' => ρ' = [.va (.fz (ns.map .int)), .ow (.lst (rs.map .int)), .va (.int a), .ow (.dic kds), s4, s5, .va (.int (0 : Nat)), .no, .no, .no, .no, .no, .no, .no, .no, .no, .no, .no, .no, .no, .no, .no, .no]) (fun N hN => ?_) (fun ρ' hρ => ?_)
  · walk_at "dl"
    exact hN _ rfl
  subst hρ
  refine sSeq_via (fun ρ' => ∃ (rs : List Int) (s4 : Sl) (g : Nat), g < 997 ^ 9 ∧ ρ' = [.va (.fz (ns.map .int)), .ow (.lst (rs.map .int)), .va (.int a), .ow (.dic kds), s4, s5, .va (.int g), .no, .no, .no, .no, .no, .no, .no, .no, .no, .no, .no, .no, .no, .no, .no, .no]) (fun N hN => ?_) (fun ρ' hρ => ?_)
  · walk_at "dl"
    refine ⟨_, _, rfl, rfl, by decide, fun r rs' r0 r1 => ?_⟩
    obtain ⟨t, rfl⟩ := Int.eq_ofNat_of_zero_le r0
    walk_at "dl"
    refine ⟨by omega, by omega, ?_⟩
    refine ⟨fun i ρ => ∃ (rs : List Int) (s4 : Sl) (g : Nat), g < 997 ^ i ∧ ρ = [.va (.fz (ns.map .int)), .ow (.lst (rs.map .int)), .va (.int a), .ow (.dic kds), s4, s5, .va (.int g), .no, .no, .no, .no, .no, .no, .no, .no, .no, .no, .no, .no, .no, .no, .no, .no], ⟨_, _, 0, by decide, rfl⟩, fun i d ρ hd hP => ?_, fun ρ hP => ?_⟩
    · obtain ⟨hi, rfl⟩ := rng_get hd
      obtain ⟨rs, s4, g, hg, rfl⟩ := hP
      have hi9 : 997 ^ i ≤ 997 ^ 9 := Nat.pow_le_pow_right (by decide) (by omega)
      have h9 : 997 ^ 9 < 2 ^ 100 := by decide
      have bg : Bt 100 (g : Int) := by unfold Bt; omega
      walk_at "dl"
      refine ⟨cmulx bg (bt_lit (by decide)) (by decide), ?_⟩
      refine ⟨_, _, rfl, rfl, by decide, fun r rs' r0 r1 => ?_⟩
      obtain ⟨u, rfl⟩ := Int.eq_ofNat_of_zero_le r0
      walk_at "dl"
      exact ⟨rs', .va (.int (0 + (i : Int))), g * 997 + u, by rw [Nat.pow_succ]; omega, by rw [Int.natCast_add, Int.natCast_mul]; rfl⟩
    · obtain ⟨rs, s4, g, hg, rfl⟩ := hP
      rw [rng_len] at hg
      exact hN _ ⟨_, _, g, Nat.lt_of_lt_of_le hg (Nat.pow_le_pow_right (by decide) (by omega)), rfl⟩
  obtain ⟨rs, s4, g, hg, rfl⟩ := hρ
  have hg : g < 974000000000000000000000000 := Nat.lt_of_lt_of_le hg (by decide)
  refine sSeq_via (fun ρ' => ∃ (rs : List Int) (s7 s8 s9 s10 s11 s12 s13 s14 s15 : Sl), ((s7 = .no ∧ s8 = .no) ∨ ∃ d e, s7 = .va d ∧ s8 = .va e) ∧ ρ' = [.va (.fz (ns.map .int)), .ow (.lst (rs.map .int)), .va (.int a), .ow (.dic kds), s4, s5, .va (.int g), s7, s8, s9, s10, s11, s12, s13, s14, s15, .no, .no, .no, .no, .no, .no, .no]) (fun N hN => ?_) (fun ρ' hρ => ?_)
  · walk_at "dl"
    refine ⟨_, _, rfl, rfl, by decide, fun r1 rs1 r10 r11 => ?_⟩
    obtain ⟨t1, rfl⟩ := Int.eq_ofNat_of_zero_le r10
    walk_at "dl"
    refine ⟨_, _, rfl, rfl, by decide, fun r2 rs2 r20 r21 => ?_⟩
    obtain ⟨t2, rfl⟩ := Int.eq_ofNat_of_zero_le r20
    walk_at "dl"
    refine ⟨cdivw (by decide) (bt_lit (by decide)) (by decide), ?_⟩
    walk_at "dl"
    refine ⟨⟨by decide, by decide, by decide⟩, _, _, rfl, rfl, by decide, fun r3 rs3 r30 r31 => ?_⟩
    obtain ⟨t3, rfl⟩ := Int.eq_ofNat_of_zero_le r30
    rw [e30]
    walk_at "dl"
    refine ⟨fun i ρ => ∃ (s7 s8 s9 s10 s11 s12 s13 s14 s15 : Sl), ((s7 = .no ∧ s8 = .no) ∨ ∃ d e, s7 = .va d ∧ s8 = .va e) ∧ ρ = [.va (.fz (ns.map .int)), .ow (.lst (rs3.map .int)), .va (.int a), .ow (.dic kds), s4, s5, .va (.int g), s7, s8, s9, s10, s11, s12, s13, s14, s15, .no, .no, .no, .no, .no, .no, .no], ⟨_, _, _, _, _, _, _, _, _, .inl ⟨rfl, rfl⟩, rfl⟩, fun i d ρ hd hP => ?_, fun ρ hP => ?_⟩
    rotate_left
    · obtain ⟨s7, s8, s9, s10, s11, s12, s13, s14, s15, hs, rfl⟩ := hP
      exact hN _ ⟨_, _, _, _, _, _, _, _, _, _, hs, rfl⟩
    obtain ⟨s7, s8, s9, s10, s11, s12, s13, s14, s15, hs, rfl⟩ := hP
    obtain ⟨one, other, I, I2, rfl⟩ : ∃ one other : Nat, In2 one other ∧ In2 (one + 1) other ∧ d = .tup [.int (one : Nat), .int (other : Nat)] := by
      have hi : i < 4 := (List.getElem?_eq_some_iff.mp hd).1
      rcases (by omega : i = 0 ∨ i = 1 ∨ i = 2 ∨ i = 3) with rfl | rfl | rfl | rfl
      · cases hd
        exact ⟨1 + t1, 1 + g, ⟨by omega, by omega, by omega, by omega⟩, ⟨by omega, by omega, by omega, by omega⟩, by rw [Int.natCast_add, Int.natCast_add]; rfl⟩
      · cases hd
        exact ⟨1 + g, 1 + t2, ⟨by omega, by omega, by omega, by omega⟩, ⟨by omega, by omega, by omega, by omega⟩, by rw [Int.natCast_add, Int.natCast_add]; rfl⟩
      · cases hd
        exact ⟨1 + g / 3, 1 + g, ⟨by omega, by omega, by omega, by omega⟩, ⟨by omega, by omega, by omega, by omega⟩, by rw [Int.natCast_add, Int.natCast_add, Int.natCast_ediv]; rfl⟩
      · cases hd
        exact ⟨1, 1000000000000000000000000000000 - t3, ⟨by omega, by omega, by omega, by omega⟩, ⟨by omega, by omega, by omega, by omega⟩, by rw [show ((1000000000000000000000000000000 - t3 : Nat) : Int) = 1000000000000000000000000000000 - (t3 : Int) by omega]; rfl⟩
    clear hd
    have pt := prs_told I.a1 I.b1
    have hsucc := F_succ I.a1 other other (Nat.le_refl _) I.b1
    walk_at "dl"
    refine ⟨_, _, rfl, I, ?_⟩
    walk_at "dl"
    refine tlF I ?_
    walk_at "dl"
    refine al1 ?_
    walk_at "dl"
    refine tlF (a := one + 1) I2 ?_
    walk_at "dl"
    split
    · omega
    walk_at "dl"
    refine tlT I (fun hF => ?_) (fun hF => ?_)
    rotate_left
    · walk_at "dl"
      split
      rotate_left
      · omega
      (walk_at "dl"; repeat (simp only [shMuch, eqS]; walk_at "dl"))
      exact ⟨_, _, _, _, _, _, _, _, _, .inr ⟨_, _, rfl, rfl⟩, rfl⟩
    walk_at "dl"
    split
    · omega
    dsimp only
    refine sSeq_via (fun ρ' => ρ' = [.va (.fz (ns.map .int)), .ow (.lst (rs3.map .int)), .va (.int a), .ow (.dic kds), s4, s5, .va (.int g), .va (.int one), .va (.int other), .va (.int (F one other : Nat)), .va (.str (tx (told one other))), s11, s12, s13, s14, s15, .no, .no, .no, .no, .no, .no, .no]) (fun N hN => ?_) (fun ρ' hρ => ?_)
    · (walk_at "dl"; repeat (simp only [tx_length, told_len I.a1 I.b1]; walk_at "dl"))
      refine ⟨by rw [sizeLine_eq]; omega, ?_⟩
      walk_at "dl"
      refine tlP (told_lo I.a1) (bd_way pt.2 (by have := I.a2; have := I.b2; omega)) (fun m hm => ?_) (fun hm => absurd (hm.symm.trans pt.1) (by simp))
      rw [pt.1] at hm
      cases hm
      walk_at "dl"
      refine al1 ?_
      walk_at "dl"
      exact hN _ rfl
    subst hρ
    have hlo := told_lo (b := other) I.a1
    refine sSeq_via (fun ρ' => ρ' = [.va (.fz (ns.map .int)), .ow (.lst (rs3.map .int)), .va (.int a), .ow (.dic kds), s4, s5, .va (.int g), .va (.int one), .va (.int other), .va (.int (F one other : Nat)), .va (.str (tx (told one other))), .va (.int one), s12, s13, s14, s15, .no, .no, .no, .no, .no, .no, .no]) (fun N hN => ?_) (fun ρ' hρ => ?_)
    · walk_at "dl"
      exact hN _ rfl
    subst hρ
    refine sSeq_via (fun ρ' => ∃ (s11 s12 : Sl), ρ' = [.va (.fz (ns.map .int)), .ow (.lst (rs3.map .int)), .va (.int a), .ow (.dic kds), s4, s5, .va (.int g), .va (.int one), .va (.int other), .va (.int (F one other : Nat)), .va (.str (tx (told one other))), s11, s12, s13, s14, s15, .no, .no, .no, .no, .no, .no, .no]) (fun N hN => ?_) (fun ρ' hρ => ?_)
    · (walk_at "dl"; repeat (simp only [signs_tx, List.length_map]; walk_at "dl"))
      refine ⟨fun i ρ => ∃ (m : Nat) (s12 : Sl), prs one ((told one other).take i) = some m ∧ ρ = [.va (.fz (ns.map .int)), .ow (.lst (rs3.map .int)), .va (.int a), .ow (.dic kds), s4, s5, .va (.int g), .va (.int one), .va (.int other), .va (.int (F one other : Nat)), .va (.str (tx (told one other))), .va (.int m), s12, s13, s14, s15, .no, .no, .no, .no, .no, .no, .no], ⟨one, _, rfl, rfl⟩, fun i d ρ hd hP => ?_, fun ρ hP => ?_⟩
      rotate_left
      · obtain ⟨m, s12, hm, rfl⟩ := hP
        exact hN _ ⟨_, _, rfl⟩
      obtain ⟨c, hc, rfl⟩ := signs_get hd
      obtain ⟨m, s12, hm, rfl⟩ := hP
      have hcl := hlo.get hc
      have es : prs one ((told one other).take (i + 1)) = prs m [c] := by rw [take_snoc hc, prs_snoc, hm]; rfl
      obtain ⟨m', em, m1, m2⟩ := way_pre pt.2 (i + 1)
      obtain ⟨m0, em0, m01, m02⟩ := way_pre pt.2 i
      rw [hm] at em0
      cases em0
      rw [em, prs] at es
      have hbig : one ≤ 1000000000000000000000000000000 ∧ other ≤ 1000000000000000000000000000000 := ⟨I.a2, I.b2⟩
      have bm : Bt 200 (m : Int) := by unfold Bt; omega
      (walk_at "dl"; repeat (simp only [lD, shT (Lo.one hcl), shT (Lo.one (show 68 < 1000 by decide)), eqS, tx1]; walk_at "dl"))
      split
      · rename_i z
        rw [if_pos z, prs] at es
        have e2 := Option.some.inj es
        walk_at "dl"
        refine ⟨cmulx (bt_lit (by decide)) bm (by decide), ?_⟩
        walk_at "dl"
        rw [if_pos (by omega), if_pos (by split <;> omega)]
        walk_at "dl"
        exact ⟨m', .va (.str (tx [c])), em, by rw [e2, Int.natCast_mul]; rfl⟩
      · rename_i z
        rw [if_neg z] at es
        split at es
        · rename_i z2
          rw [prs] at es
          have e2 := Option.some.inj es
          walk_at "dl"
          rw [if_pos (by omega)]
          walk_at "dl"
          rw [if_pos (by split <;> omega)]
          walk_at "dl"
          exact ⟨m', .va (.str (tx [c])), em, by rw [e2, show ((m - 1 : Nat) : Int) = (m : Int) - 1 by omega]⟩
        · cases es
    obtain ⟨s11, s12, rfl⟩ := hρ
    refine sSeq_via (fun ρ' => ρ' = [.va (.fz (ns.map .int)), .ow (.lst (rs3.map .int)), .va (.int a), .ow (.dic kds), s4, s5, .va (.int g), .va (.int one), .va (.int other), .va (.int (F one other : Nat)), .va (.str (tx (told one other))), .va (.int other), s12, s13, s14, s15, .no, .no, .no, .no, .no, .no, .no]) (fun N hN => ?_) (fun ρ' hρ => ?_)
    · walk_at "dl"
      exact hN _ rfl
    subst hρ
    refine sSeq_via (fun ρ' => ρ' = [.va (.fz (ns.map .int)), .ow (.lst (rs3.map .int)), .va (.int a), .ow (.dic kds), s4, s5, .va (.int g), .va (.int one), .va (.int other), .va (.int (F one other : Nat)), .va (.str (tx (told one other))), .va (.int other), s12, .va (.str (tx (told one other))), s14, s15, .no, .no, .no, .no, .no, .no, .no]) (fun N hN => ?_) (fun ρ' hρ => ?_)
    · walk_at "dl"
      exact hN _ rfl
    subst hρ
    refine sSeq_via (fun ρ' => ∃ (s14 s15 : Sl), ρ' = [.va (.fz (ns.map .int)), .ow (.lst (rs3.map .int)), .va (.int a), .ow (.dic kds), s4, s5, .va (.int g), .va (.int one), .va (.int other), .va (.int (F one other : Nat)), .va (.str (tx (told one other))), .va (.int (E one other : Nat)), s12, .va (.str (tx (List.replicate (one - E one other) 77))), s14, s15, .no, .no, .no, .no, .no, .no, .no]) (fun N hN => ?_) (fun ρ' hρ => ?_)
    · walk_at "dl"
      refine ⟨by decide, by decide, ?_⟩
      refine ⟨fun i ρ => ∃ (c : Nat) (s14 s15 : Sl), (E one other = E one c ∧ 1 ≤ c ∧ (P one c).length ≤ (P one other).length ∧ (c ≤ one ∨ c - 1 = (other - 1) / 2 ^ i)) ∧ ρ = [.va (.fz (ns.map .int)), .ow (.lst (rs3.map .int)), .va (.int a), .ow (.dic kds), s4, s5, .va (.int g), .va (.int one), .va (.int other), .va (.int (F one other : Nat)), .va (.str (tx (told one other))), .va (.int c), s12, .va (.str (tx (List.replicate (one - E one other) 77 ++ P one c))), s14, s15, .no, .no, .no, .no, .no, .no, .no], ⟨other, _, _, ⟨rfl, I.b1, Nat.le_refl _, .inr (by rw [Nat.pow_zero, Nat.div_one])⟩, rfl⟩, fun i d ρ hd hP => ?_, fun ρ hP => ?_⟩
      rotate_left
      · obtain ⟨c, s14, s15, ⟨hE, hc1, hc2, hh⟩, rfl⟩ := hP
        rw [rng_len] at hh
        have hle := half_end hh (Nat.lt_of_le_of_lt I.b2 (by decide)) I.a1
        rw [E_le hle] at hE
        refine hN _ ⟨s14, s15, ?_⟩
        rw [P_le hle, List.append_nil, hE]
      obtain ⟨hi, rfl⟩ := rng_get hd
      obtain ⟨c, s14, s15, ⟨hE, hc1, hc2, hh⟩, rfl⟩ := hP
      have hlen : (List.replicate (one - E one other) 77 ++ P one c).length ≤ 20000 := by
        have h1 := F_eq I.a1 other other (Nat.le_refl _) I.b1
        rw [List.length_append, List.length_replicate]
        omega
      walk_at "dl"
      split
      · rename_i hlt
        have hlt : one < c := by omega
        have hs := half_step hh hlt I.a1
        have e3 := half_int c
        have hP := P_gt I.a1 hlt
        have hE2 := E_gt I.a1 hlt
        unfold pc at hP
        walk_at "dl"
        refine ⟨by decide, ?_⟩
        split
        · rename_i z
          rw [if_pos (by omega)] at hP
          obtain ⟨R, hR⟩ : ∃ R, R = List.replicate (one - E one other) 77 ++ P one ((c + 1) / 2) := ⟨_, rfl⟩
          have hR2 : List.replicate (one - E one other) 77 ++ P one c = R ++ [68] := by rw [hP, hR, List.append_assoc]
          rw [hR2] at hlen
          have hlP := congrArg List.length hP
          rw [List.length_append] at hlP
          have he := ends_tx (l := R ++ [68]) (p := R) (m := [68]) rfl
          have hz1 : (tx (R ++ [68])).length ≤ sizeLine := by rw [tx_length, sizeLine_eq]; omega
          have hz2 : (tx [68]).length ≤ sizeLine := by decide
          (walk_at "dl"; repeat (simp only [lD, hR2, he]; walk_at "dl"))
          refine ⟨hz1, hz2, hz1, cdivw (by decide) (bt_lit (by decide)) (by decide), ?_⟩
          rw [cut_end, e3, hR]
          exact ⟨(c + 1) / 2, _, _, ⟨hE.trans hE2, by omega, by omega, .inr hs⟩, rfl⟩
        · rename_i z
          rw [if_neg (by omega)] at hP
          obtain ⟨R, hR⟩ : ∃ R, R = List.replicate (one - E one other) 77 ++ P one ((c + 1) / 2) := ⟨_, rfl⟩
          have hR2 : List.replicate (one - E one other) 77 ++ P one c = R ++ [68, 77] := by rw [hP, hR, List.append_assoc]
          rw [hR2] at hlen
          have hlP := congrArg List.length hP
          rw [List.length_append] at hlP
          have he := ends_tx (l := R ++ [68, 77]) (p := R) (m := [68, 77]) rfl
          have hz1 : (tx (R ++ [68, 77])).length ≤ sizeLine := by rw [tx_length, sizeLine_eq]; omega
          have hz2 : (tx [68, 77]).length ≤ sizeLine := by decide
          (walk_at "dl"; repeat (simp only [lDM, hR2, he]; walk_at "dl"))
          refine ⟨hz1, hz2, hz1, cdivw (by decide) (bt_lit (by decide)) (by decide), ?_⟩
          rw [cut_end, e3, hR]
          exact ⟨(c + 1) / 2, _, _, ⟨hE.trans hE2, by omega, by omega, .inr hs⟩, rfl⟩
      · rename_i hge
        walk_at "dl"
        exact ⟨c, _, _, ⟨hE, hc1, hc2, .inl (by omega)⟩, rfl⟩
    obtain ⟨s14, s15, rfl⟩ := hρ
    have hEb := E_bd I.a1 other other (Nat.le_refl _) I.b1
    have hFe := F_eq I.a1 other other (Nat.le_refl _) I.b1
    have eM : ((one : Int) - (E one other : Nat)).toNat = one - E one other := by omega
    have hloM : Lo (List.replicate (one - E one other) 77) := Lo.rep (by decide)
    (walk_at "dl"; repeat (simp only [lM, eM, repS_tx, tx_length, shT hloM, eqS]; walk_at "dl"))
    exact ⟨by omega, by omega, _, _, _, _, _, _, _, _, _, .inr ⟨_, _, rfl, rfl⟩, rfl⟩
  obtain ⟨rs, s7, s8, s9, s10, s11, s12, s13, s14, s15, h78, rfl⟩ := hρ
  refine sSeq_via (fun ρ' => ∃ (rs : List Int) (l : List Nat), ((∀ c ∈ l, c = 68 ∨ c = 77) ∧ l.length < 40) ∧ ρ' = [.va (.fz (ns.map .int)), .ow (.lst (rs.map .int)), .va (.int a), .ow (.dic kds), s4, s5, .va (.int g), s7, s8, s9, s10, s11, s12, s13, s14, s15, .va (.str (tx l)), .no, .no, .no, .no, .no, .no]) (fun N hN => ?_) (fun ρ' hρ => ?_)
  · (walk_at "dl"; repeat (simp only [lE]; walk_at "dl"))
    refine ⟨_, _, rfl, rfl, by decide, fun r rs' r0 r1 => ?_⟩
    obtain ⟨t, rfl⟩ := Int.eq_ofNat_of_zero_le r0
    walk_at "dl"
    refine ⟨by omega, by omega, ?_⟩
    refine ⟨rfl, fun i acc ρ => ∃ (rs : List Int) (l : List Nat), (acc = l.map fun c => D.str (tx [c])) ∧ (∀ c ∈ l, c = 68 ∨ c = 77) ∧ l.length = i ∧ ρ = [.va (.fz (ns.map .int)), .ow (.lst (rs.map .int)), .va (.int a), .ow (.dic kds), s4, s5, .va (.int g), s7, s8, s9, s10, s11, s12, s13, s14, s15, .no, .no, .no, .no, .no, .no, .no], ⟨_, [], rfl, (fun c h => nomatch h), rfl, rfl⟩, fun i d acc ρ hd hP => ?_, fun acc ρ hP => ?_⟩
    · obtain ⟨hi, rfl⟩ := rng_get hd
      obtain ⟨rs, l, rfl, hl, hli, rfl⟩ := hP
      walk_at "dl"
      refine ⟨_, _, rfl, rfl, by decide, fun r rs' r0 r1 => ?_⟩
      rcases (by omega : r = 0 ∨ r = 1) with rfl | rfl
      · (walk_at "dl"; repeat (simp only [lDM, tx_length]; walk_at "dl"))
        refine ⟨by decide, ?_⟩
        refine ⟨Nat.lt_of_le_of_lt (show _ ≤ 1000 by rw [List.length_map]; omega) (by decide), rs', l ++ [68], by rw [List.map_append]; rfl, (fun c hc => (List.mem_append.mp hc).elim (hl c) fun z => .inl (List.mem_singleton.mp z)), by rw [List.length_append, hli]; rfl, rfl⟩
      · (walk_at "dl"; repeat (simp only [lDM, tx_length]; walk_at "dl"))
        refine ⟨by decide, ?_⟩
        refine ⟨Nat.lt_of_le_of_lt (show _ ≤ 1000 by rw [List.length_map]; omega) (by decide), rs', l ++ [77], by rw [List.map_append]; rfl, (fun c hc => (List.mem_append.mp hc).elim (hl c) fun z => .inr (List.mem_singleton.mp z)), by rw [List.length_append, hli]; rfl, rfl⟩
    · obtain ⟨rs, l, rfl, hl, hli, rfl⟩ := hP
      rw [rng_len] at hli
      (walk_at "dl"; repeat (simp only [lE]; walk_at "dl"))
      refine ⟨l.map fun c => tx [c], by rw [List.map_map]; rfl, ?_, ?_⟩
      · rw [sum_ones, tx_length]
        show l.length + _ * 0 ≤ _
        omega
      · (walk_at "dl"; repeat (simp only [unwipe, Option.getD_some, join_tx]; walk_at "dl"))
        exact hN _ ⟨_, _, ⟨hl, by omega⟩, rfl⟩
  obtain ⟨rs, l, ⟨hl, hl40⟩, rfl⟩ := hρ
  have hlo : Lo l := fun c hc => by have := hl c hc; omega
  have hbd : ∀ m, Lo m → m.length ≤ 50 → Bd a m := fun m _ h2 => bd_len (Nat.lt_of_le_of_lt a1 (by decide)) (by omega)
  refine sSeq_via (fun ρ' => ρ' = [.va (.fz (ns.map .int)), .ow (.lst (rs.map .int)), .va (.int a), .ow (.dic kds), s4, s5, .va (.int g), s7, s8, s9, s10, .va (.int a), s12, s13, s14, s15, .va (.str (tx l)), .va (.bl true), .no, .no, .no, .no, .no]) (fun N hN => ?_) (fun ρ' hρ => ?_)
  · walk_at "dl"
    exact hN _ rfl
  subst hρ
  refine sSeq_via (fun ρ' => ∃ (m : Nat) (gd : Bool) (s12 : Sl), ((gd = true ∧ prs a l = some m) ∨ (gd = false ∧ prs a l = none)) ∧ ρ' = [.va (.fz (ns.map .int)), .ow (.lst (rs.map .int)), .va (.int a), .ow (.dic kds), s4, s5, .va (.int g), s7, s8, s9, s10, .va (.int m), s12, s13, s14, s15, .va (.str (tx l)), .va (.bl gd), .no, .no, .no, .no, .no]) (fun N hN => ?_) (fun ρ' hρ => ?_)
  · (walk_at "dl"; repeat (simp only [signs_tx, List.length_map]; walk_at "dl"))
    refine ⟨fun i ρ => ∃ (m : Nat) (gd : Bool) (s12 : Sl), ((gd = true ∧ prs a (l.take i) = some m ∧ 1 ≤ m) ∨ (gd = false ∧ prs a (l.take i) = none)) ∧ ρ = [.va (.fz (ns.map .int)), .ow (.lst (rs.map .int)), .va (.int a), .ow (.dic kds), s4, s5, .va (.int g), s7, s8, s9, s10, .va (.int m), s12, s13, s14, s15, .va (.str (tx l)), .va (.bl gd), .no, .no, .no, .no, .no], ⟨a, true, _, .inl ⟨rfl, rfl, a0⟩, rfl⟩, fun i d ρ hd hP => ?_, fun ρ hP => ?_⟩
    rotate_left
    · obtain ⟨m, gd, s12, hm, rfl⟩ := hP
      rw [List.length_map, List.take_length] at hm
      exact hN _ ⟨m, gd, _, hm.elim (fun z => .inl ⟨z.1, z.2.1⟩) .inr, rfl⟩
    obtain ⟨c, hc, rfl⟩ := signs_get hd
    obtain ⟨m, gd, s12, hm, rfl⟩ := hP
    have hcl := hlo.get hc
    have hcc := hl c (List.mem_of_getElem? hc)
    rcases hm with ⟨rfl, hm, hm1⟩ | ⟨rfl, hm⟩
    · have es : prs a (l.take (i + 1)) = prs m [c] := by rw [take_snoc hc, prs_snoc, hm]; rfl
      have hmb := hbd l hlo (by omega) i m hm
      have bm : Bt 200 (m : Int) := by unfold Bt; omega
      rw [prs] at es
      (walk_at "dl"; repeat (simp only [lD, shT (Lo.one hcl), shT (Lo.one (show 68 < 1000 by decide)), eqS, tx1]; walk_at "dl"))
      split
      · rename_i z
        rw [if_pos z] at es
        (walk_at "dl"; repeat (simp only [lD, shT (Lo.one hcl), shT (Lo.one (show 68 < 1000 by decide)), eqS, tx1]; walk_at "dl"))
        rw [if_pos z]
        walk_at "dl"
        refine ⟨cmulx (bt_lit (by decide)) bm (by decide), ?_⟩
        exact ⟨2 * m, true, .va (.str (tx [c])), .inl ⟨rfl, es, by omega⟩, by rw [Int.natCast_mul]; rfl⟩
      · rename_i z
        rw [if_neg z] at es
        obtain rfl : c = 77 := hcc.resolve_left z
        (walk_at "dl"; repeat (simp only [lD, shT (Lo.one hcl), shT (Lo.one (show 68 < 1000 by decide)), eqS, tx1]; walk_at "dl"))
        rw [if_neg z]
        walk_at "dl"
        by_cases h1 : 1 < m
        · rw [if_pos ⟨rfl, h1⟩] at es
          refine ⟨m - 1, true, .va (.str (tx [77])), .inl ⟨rfl, es, by omega⟩, ?_⟩
          rw [show ((m - 1 : Nat) : Int) = (m : Int) - 1 by omega, show decide ((1 : Int) < m) = true from decide_eq_true (by omega)]
        · rw [if_neg (fun z => h1 z.2)] at es
          refine ⟨m - 1, false, .va (.str (tx [77])), .inr ⟨rfl, es⟩, ?_⟩
          rw [show ((m - 1 : Nat) : Int) = (m : Int) - 1 by omega, show decide ((1 : Int) < m) = false from decide_eq_false (by omega)]
    · have es : prs a (l.take (i + 1)) = none := by rw [take_snoc hc, prs_snoc, hm]; rfl
      walk_at "dl"
      exact ⟨m, false, _, .inr ⟨rfl, es⟩, rfl⟩
  obtain ⟨m, gd, s12, hm, rfl⟩ := hρ
  refine sSeq_via (fun ρ' => ρ' = [.va (.fz (ns.map .int)), .ow (.lst (rs.map .int)), .va (.int a), .ow (.dic kds), s4, s5, .va (.int g), s7, s8, s9, s10, .va (.int m), s12, s13, s14, s15, .va (.str (tx l)), .va (.bl gd), .no, .no, .no, .no, .no]) (fun N hN => ?_) (fun ρ' hρ => ?_)
  · walk_at "dl"
    refine tlP hlo (hbd l hlo (by omega)) (fun m' hm' => ?_) (fun hm' => ?_)
    · obtain ⟨rfl, e⟩ : gd = true ∧ prs a l = some m := hm.elim id fun z => absurd (z.2.symm.trans hm') (by simp)
      rw [e] at hm'
      cases hm'
      walk_at "dl"
      refine al1 ?_
      walk_at "dl"
      exact hN _ rfl
    · obtain ⟨rfl, e⟩ : gd = false ∧ prs a l = none := hm.elim (fun z => absurd (z.2.symm.trans hm') (by simp)) id
      walk_at "dl"
      refine al1s (of_eq_true shRef) ?_
      walk_at "dl"
      exact hN _ rfl
  subst hρ
  refine sSeq_via (fun ρ' => ρ' = [.va (.fz (ns.map .int)), .ow (.lst (rs.map .int)), .va (.int a), .ow (.dic kds), s4, s5, .va (.int g), s7, s8, s9, s10, .va (.int m), s12, s13, s14, s15, .va (.str (tx l)), .va (.bl gd), .ow (.lst (List.replicate 5 (.str "refused"))), .no, .no, .no, .no]) (fun N hN => ?_) (fun ρ' hρ => ?_)
  · have lq : ("?" : Str) = tx [63] := by decide
    have ld : ("d" : Str) = tx [100] := by decide
    have ldx : ("DX" : Str) = tx [68, 88] := by decide
    have ldm : ("D M" : Str) = tx [68, 32, 77] := by decide
    have key : ∀ (i : Nat) (d : D), ([D.str "d", D.str "DX", D.str "D M", D.str (tx (List.replicate (a : Int).toNat 77)), D.str (tx l ++ "?")] : List D)[i]? = some d → ∃ m : List Nat, d = .str (tx m) ∧ Lo m ∧ m.length ≤ 50 ∧ prs a m = none := fun i d hd => by
      have hi : i < 5 := (List.getElem?_eq_some_iff.mp hd).1
      rcases (by omega : i = 0 ∨ i = 1 ∨ i = 2 ∨ i = 3 ∨ i = 4) with rfl | rfl | rfl | rfl | rfl
      · cases hd
        exact ⟨[100], by rw [ld], Lo.one (by decide), by show 1 ≤ 50; decide, by rw [prs, if_neg (by decide), if_neg (fun z => absurd z.1 (by decide))]⟩
      · cases hd
        exact ⟨[68, 88], by rw [ldx], (Lo.one (c := 68) (by decide)).app (Lo.one (c := 88) (by decide)), by show 2 ≤ 50; decide, by rw [prs, if_pos rfl, prs, if_neg (by decide), if_neg (fun z => absurd z.1 (by decide))]⟩
      · cases hd
        exact ⟨[68, 32, 77], by rw [ldm], ((Lo.one (c := 68) (by decide)).app (Lo.one (c := 32) (by decide))).app (Lo.one (c := 77) (by decide)), by show 3 ≤ 50; decide, by rw [prs, if_pos rfl, prs, if_neg (by decide), if_neg (fun z => absurd z.1 (by decide))]⟩
      · cases hd
        exact ⟨_, rfl, Lo.rep (by decide), by rw [List.length_replicate]; omega, by rw [Int.toNat_natCast]; exact prs_M0 a a0⟩
      · cases hd
        refine ⟨_, by rw [lq, tx_app], hlo.app (Lo.one (by decide)), by rw [List.length_append]; show _ + 1 ≤ 50; omega, ?_⟩
        rw [prs_app]
        cases prs a l with
        | none => rfl
        | some m => rfl
    have hz : l.length + ("?" : Str).length ≤ sizeLine := by
      rw [lq, tx_length, sizeLine_eq]
      show l.length + 1 ≤ _
      omega
    (walk_at "dl"; repeat (simp only [lM, repS_tx, tx_length]; walk_at "dl"))
    refine ⟨by omega, by omega, hz, ?_⟩
    refine ⟨rfl, fun i acc ρ => acc = List.replicate i (.str "refused") ∧ ρ = [.va (.fz (ns.map .int)), .ow (.lst (rs.map .int)), .va (.int a), .ow (.dic kds), s4, s5, .va (.int g), s7, s8, s9, s10, .va (.int m), s12, s13, s14, s15, .va (.str (tx l)), .va (.bl gd), .no, .no, .no, .no, .no], ⟨rfl, rfl⟩, fun i d acc ρ hd hP => ?_, fun acc ρ hP => ?_⟩
    · obtain ⟨rfl, rfl⟩ := hP
      have hi : i < 5 := (List.getElem?_eq_some_iff.mp hd).1
      obtain ⟨m, rfl, k1, k2, k3⟩ := key i d hd
      walk_at "dl"
      refine tlP k1 (hbd m k1 k2) (fun m' hm' => absurd (k3.symm.trans hm') (by simp)) (fun _ => ?_)
      walk_at "dl"
      exact ⟨Nat.lt_of_le_of_lt (show _ ≤ 100 by rw [List.length_replicate]; omega) (by decide), List.replicate_succ'.symm, rfl⟩
    · obtain ⟨rfl, rfl⟩ := hP
      (walk_at "dl"; repeat (simp only [unwipe, Option.getD_some]; walk_at "dl"))
      exact hN _ rfl
  subst hρ
  refine sSeq_via (fun ρ' => ρ' = [.va (.fz (ns.map .int)), .ow (.lst (rs.map .int)), .va (.int a), .ow (.dic kds), s4, s5, .va (.int g), s7, s8, s9, s10, .va (.int m), s12, s13, s14, s15, .va (.str (tx l)), .va (.bl gd), .ow (.lst (List.replicate 5 (.str "refused"))), .ow (.lst (List.replicate 7 (.str "range"))), .no, .no, .no]) (fun N hN => ?_) (fun ρ' hρ => ?_)
  · have hp : CPow 10 30 := ⟨by decide, by decide, by decide⟩
    rcases h78 with ⟨rfl, rfl⟩ | ⟨d7, d8, rfl, rfl⟩
    all_goals
      walk_at "dl"
      refine ⟨hp, hp, hp, ?_⟩
      refine ⟨rfl, fun i acc ρ => acc = List.replicate i (.str "range") ∧ ρ = [.va (.fz (ns.map .int)), .ow (.lst (rs.map .int)), .va (.int a), .ow (.dic kds), s4, s5, .va (.int g), .no, .no, s9, s10, .va (.int m), s12, s13, s14, s15, .va (.str (tx l)), .va (.bl gd), .ow (.lst (List.replicate 5 (.str "refused"))), .no, .no, .no, .no], ⟨rfl, rfl⟩, fun i d acc ρ hd hP => ?_, fun acc ρ hP => ?_⟩
      · obtain ⟨rfl, rfl⟩ := hP
        have hi : i < 7 := (List.getElem?_eq_some_iff.mp hd).1
        obtain ⟨w, b, c, rfl, hw, hbc⟩ : ∃ w b c : Int, d = .tup [.int w, .int b, .int c] ∧ w ≠ 0 ∧ ¬ ((1 ≤ b ∧ b ≤ 1000000000000000000000000000000) ∧ 1 ≤ c ∧ c ≤ 1000000000000000000000000000000) := by
          have := List.mem_of_getElem? hd
          simp only [List.mem_cons, List.not_mem_nil, or_false, e30] at this
          rcases this with rfl | rfl | rfl | rfl | rfl | rfl | rfl
          all_goals exact ⟨_, _, _, rfl, by decide, by decide⟩
        walk_at "dl"
        refine tlR hw hbc ?_
        walk_at "dl"
        exact ⟨Nat.lt_of_le_of_lt (show _ ≤ 100 by rw [List.length_replicate]; omega) (by decide), List.replicate_succ'.symm, rfl⟩
      · obtain ⟨rfl, rfl⟩ := hP
        (walk_at "dl"; repeat (simp only [unwipe, Option.getD_some]; walk_at "dl"))
        exact hN _ rfl
  subst hρ
  have hp6 : CPow 10 6 := ⟨by decide, by decide, by decide⟩
  have e6 : (10 : Int) ^ Int.toNat 6 = 1000000 := by decide
  have F1 : F 1000000 5 = 999995 := F_le (by decide)
  have F2 : F 10005 5 = 10000 := F_le (by decide)
  walk_at "dl"
  refine ⟨by decide, by decide, by decide, sh5.1, sh5.2.1, ?_⟩
  refine Eq.mpr (if_pos sh5.2.2) ?_
  walk_at "dl"
  refine ⟨by decide, by decide, by decide, sh7.1, sh7.2.1, ?_⟩
  refine Eq.mpr (if_pos sh7.2.2) ?_
  walk_at "dl"
  refine ⟨hp6, ?_⟩
  rw [e6]
  refine tlT (a := 1000000) (b := 5) ⟨by decide, by decide, by decide, by decide⟩ (fun z => absurd z (by rw [F1]; decide)) (fun _ => ?_)
  (walk_at "dl"; repeat (simp only [shMuch, eqS]; walk_at "dl"))
  refine tlT (a := 10005) (b := 5) ⟨by decide, by decide, by decide, by decide⟩ (fun _ => ?_) (fun z => absurd z (by rw [F2]; decide))
  have hM : repS ("M" : Str) (Int.toNat 10000) = tx (told 10005 5) := by
    rw [lM, repS_tx, told_M (by decide), show Int.toNat 10000 = 10005 - 5 by decide]
  have hT := of_eq_true (shT (told_lo (a := 10005) (b := 5) (by decide)))
  walk_at "dl"
  rw [hM]
  refine ⟨by rw [lM, tx_length]; rfl, by decide, by decide, hT, hT, ?_⟩
  rw [eqS, decide_eq_true rfl]
  exact h
end K81

set_option Elab.async false
set_option linter.all false
set_option maxRecDepth 100000
set_option maxHeartbeats 4000000
namespace K81
open PySem PySem.Spec PyProof.Rows L2 DL LW L2H HotX
theorem sc__law_word : FnScope ["e", "kinds", "one"] ["e"] (defScope s__law_word) := ⟨rfl, rfl, rfl, by decide +kernel, rfl, by decide +kernel, by decide +kernel⟩
theorem word_ok {P : Program} {w : World} {K : PySem.W.Frag} {mg : Str → Option Value} {base : Heap} {k : Nat} {C_KiteError C_OutOfRange C_Malformed C_NotThere C_Refused C_TooMuch : Addr} (Z : Top K mg C_KiteError C_OutOfRange C_Malformed C_NotThere C_Refused C_TooMuch)
    {fa : Addr} {fd : FuncData} (F : Fun K "_law_word" "_law_word" s__law_word fa fd) {D : Addr} (X : ExcC K D) {b1 b2 b3 b4 b5 : Bool} {j : Nat} {z : Str} (k1 : PySem.W.kitOne K (.ref D) (.ref C_OutOfRange) = some b1) (k2 : PySem.W.kitOne K (.ref D) (.ref C_Malformed) = some b2) (k3 : PySem.W.kitOne K (.ref D) (.ref C_NotThere) = some b3)
    (k4 : PySem.W.kitOne K (.ref D) (.ref C_Refused) = some b4) (k5 : PySem.W.kitOne K (.ref D) (.ref C_TooMuch) = some b5) (one : ([b1, b2, b3, b4, b5].filter id).length = 1) (hj : [b1, b2, b3, b4, b5][j]? = some true) (hm : ∀ m b, m < j → [b1, b2, b3, b4, b5][m]? = some b → b = false) (hz : words5[j]? = some z) :
    FnW P w K mg base (k + 1) fa fd "e" D z :=
  fnW_of F sc__law_word fun cdv A outer s H Q E p hot ho hr hq => ⟨tWord K D p.1 C_OutOfRange C_Malformed C_NotThere C_Refused C_TooMuch,
    pss_cons (ps_asg (pe_lst (pa_cons (pe_callB (call_isP X ho (List.mem_singleton_self p)) (by rfl) Z.b_isinstance (by decide +kernel) (pa_cons (pv 0) (pa_cons (pe_glob (by rfl) Z.x_OutOfRange.gC rfl) pa_nil)))
      (pa_cons (pe_callB (call_isP X ho (List.mem_singleton_self p)) (by rfl) Z.b_isinstance (by decide +kernel) (pa_cons (pv 0) (pa_cons (pe_glob (by rfl) Z.x_Malformed.gC rfl) pa_nil)))
      (pa_cons (pe_callB (call_isP X ho (List.mem_singleton_self p)) (by rfl) Z.b_isinstance (by decide +kernel) (pa_cons (pv 0) (pa_cons (pe_glob (by rfl) Z.x_NotThere.gC rfl) pa_nil)))
      (pa_cons (pe_callB (call_isP X ho (List.mem_singleton_self p)) (by rfl) Z.b_isinstance (by decide +kernel) (pa_cons (pv 0) (pa_cons (pe_glob (by rfl) Z.x_Refused.gC rfl) pa_nil)))
      (pa_cons (pe_callB (call_isP X ho (List.mem_singleton_self p)) (by rfl) Z.b_isinstance (by decide +kernel) (pa_cons (pv 0) (pa_cons (pe_glob (by rfl) Z.x_TooMuch.gC rfl) pa_nil))) pa_nil)))))) (pg_name (i := 1) sc__law_word.nd rfl (.inl rfl)))
    (pss_cons (ps_if (pt_cmpR op_ne (pe_callB call_len_seq (by rfl) Z.b_len PySem.boot_len (pa_cons (pe_lcHot' ⟨p, hot, List.mem_singleton_self p⟩ sc__law_word.nd (pv 1) (blkOk_by (N := ["e", "kinds", "one"]) (sc := defScope s__law_word) (own := [("one", 2)]) (by decide +kernel))
        (fun _ _ _ _ _ => pg_name (i := 2) sc__law_word.nd rfl (.inl rfl)) (fun _ _ _ _ _ => pts_one (pt_val (pv 2))) (fun _ _ _ _ _ => pv 2)) pa_nil)) pe_int (nomark _)) (pss_one (ps_ret pe_str)) pss_nil)
    (pss_one (ps_ret (pe_ix ix_list (pe_lst (pa_cons pe_str (pa_cons pe_str (pa_cons pe_str (pa_cons pe_str (pa_cons pe_str pa_nil)))))) (pe_bm PySem.F.plainAttrs_list PySem.F.slot_list_index PySem.F.type_list_index mt_index (pv 1) (pa_cons pe_bl pa_nil)) (fun _ _ => rfl))))),
    word_reads k1 k2 k3 k4 k5 one hj hm hz hq rfl⟩
end K81

set_option Elab.async false
set_option linter.all false
set_option maxRecDepth 100000
set_option maxHeartbeats 4000000
namespace K81
open PySem PySem.Spec PyProof.Rows L2 DL LW
theorem chain {P : Program} {w : World} {K : PySem.W.Frag} {mg : Str → Option Value} {base : Heap} {C_KiteError C_OutOfRange C_Malformed C_NotThere C_Refused C_TooMuch : Addr} (Z : Top K mg C_KiteError C_OutOfRange C_Malformed C_NotThere C_Refused C_TooMuch)
    {f_is_number : Addr} {fd_is_number : FuncData} (F_is_number : Fun K "is_number" "is_number" s_is_number f_is_number fd_is_number) (m_is_number : mg "is_number" = some (.ref f_is_number))
    {f_pressed : Addr} {fd_pressed : FuncData} (F_pressed : Fun K "pressed" "pressed" s_pressed f_pressed fd_pressed) (m_pressed : mg "pressed" = some (.ref f_pressed))
    {f_check_numbers : Addr} {fd_check_numbers : FuncData} (F_check_numbers : Fun K "check_numbers" "check_numbers" s_check_numbers f_check_numbers fd_check_numbers) (m_check_numbers : mg "check_numbers" = some (.ref f_check_numbers))
    {f_fewest_presses : Addr} {fd_fewest_presses : FuncData} (F_fewest_presses : Fun K "fewest_presses" "fewest_presses" s_fewest_presses f_fewest_presses fd_fewest_presses) (m_fewest_presses : mg "fewest_presses" = some (.ref f_fewest_presses))
    {f_told_presses : Addr} {fd_told_presses : FuncData} (F_told_presses : Fun K "told_presses" "told_presses" s_told_presses f_told_presses fd_told_presses) (m_told_presses : mg "told_presses" = some (.ref f_told_presses))
    {f__law_draws : Addr} {fd__law_draws : FuncData} (F__law_draws : Fun K "_law_draws" "_law_draws" s__law_draws f__law_draws fd__law_draws) (m__law_draws : mg "_law_draws" = some (.ref f__law_draws))
    {f__law_take : Addr} {fd__law_take : FuncData} (F__law_take : Fun K "_law_take" "_law_take" s__law_take f__law_take fd__law_take) (m__law_take : mg "_law_take" = some (.ref f__law_take))
    {f__law_alike : Addr} {fd__law_alike : FuncData} (F__law_alike : Fun K "_law_alike" "_law_alike" s__law_alike f__law_alike fd__law_alike) (m__law_alike : mg "_law_alike" = some (.ref f__law_alike))
    {f__law_told : Addr} {fd__law_told : FuncData} (F__law_told : Fun K "_law_told" "_law_told" s__law_told f__law_told fd__law_told) (m__law_told : mg "_law_told" = some (.ref f__law_told))
    {f__law_levels : Addr} {fd__law_levels : FuncData} (F__law_levels : Fun K "_law_levels" "_law_levels" s__law_levels f__law_levels fd__law_levels) (m__law_levels : mg "_law_levels" = some (.ref f__law_levels))
    {f__law_few : Addr} {fd__law_few : FuncData} (F__law_few : Fun K "_law_few" "_law_few" s__law_few f__law_few fd__law_few) (m__law_few : mg "_law_few" = some (.ref f__law_few))
    {f_law : Addr} {fd_law : FuncData} (F_law : Fun K "law" "law" s_law f_law fd_law) (m_law : mg "law" = some (.ref f_law))
    {f__law_word : Addr} {fd__law_word : FuncData} (F__law_word : Fun K "_law_word" "_law_word" s__law_word f__law_word fd__law_word) (m__law_word : mg "_law_word" = some (.ref f__law_word))
    (X_OutOfRange : ExcC K C_OutOfRange) (k_OutOfRange_OutOfRange : PySem.W.kitOne K (.ref C_OutOfRange) (.ref C_OutOfRange) = some true) (k_OutOfRange_Malformed : PySem.W.kitOne K (.ref C_OutOfRange) (.ref C_Malformed) = some false) (k_OutOfRange_NotThere : PySem.W.kitOne K (.ref C_OutOfRange) (.ref C_NotThere) = some false) (k_OutOfRange_Refused : PySem.W.kitOne K (.ref C_OutOfRange) (.ref C_Refused) = some false) (k_OutOfRange_TooMuch : PySem.W.kitOne K (.ref C_OutOfRange) (.ref C_TooMuch) = some false) (e_OutOfRange : PySem.W.exmOne K (.ref C_OutOfRange) (.ref C_KiteError) = some true)
    (X_Refused : ExcC K C_Refused) (k_Refused_OutOfRange : PySem.W.kitOne K (.ref C_Refused) (.ref C_OutOfRange) = some false) (k_Refused_Malformed : PySem.W.kitOne K (.ref C_Refused) (.ref C_Malformed) = some false) (k_Refused_NotThere : PySem.W.kitOne K (.ref C_Refused) (.ref C_NotThere) = some false) (k_Refused_Refused : PySem.W.kitOne K (.ref C_Refused) (.ref C_Refused) = some true) (k_Refused_TooMuch : PySem.W.kitOne K (.ref C_Refused) (.ref C_TooMuch) = some false) (e_Refused : PySem.W.exmOne K (.ref C_Refused) (.ref C_KiteError) = some true)
    (X_TooMuch : ExcC K C_TooMuch) (k_TooMuch_OutOfRange : PySem.W.kitOne K (.ref C_TooMuch) (.ref C_OutOfRange) = some false) (k_TooMuch_Malformed : PySem.W.kitOne K (.ref C_TooMuch) (.ref C_Malformed) = some false) (k_TooMuch_NotThere : PySem.W.kitOne K (.ref C_TooMuch) (.ref C_NotThere) = some false) (k_TooMuch_Refused : PySem.W.kitOne K (.ref C_TooMuch) (.ref C_Refused) = some false) (k_TooMuch_TooMuch : PySem.W.kitOne K (.ref C_TooMuch) (.ref C_TooMuch) = some true) (e_TooMuch : PySem.W.exmOne K (.ref C_TooMuch) (.ref C_KiteError) = some true)
    : FnOk P w K mg base (L2N.CX P w) 6 f_law fd_law ["script"] (liftSp K sp_law) := by
  have b_is_number : Binds K fd_is_number p_is_number [] := F_is_number.binds (ps := p_is_number) fun _ _ _ _ _ _ us hl => match us, hl with | [_, _, _], _ => rfl
  have b_pressed : Binds K fd_pressed p_pressed [] := F_pressed.binds (ps := p_pressed) fun _ _ _ _ _ _ us hl => match us, hl with | [_, _], _ => rfl
  have b_check_numbers : Binds K fd_check_numbers p_check_numbers [] := F_check_numbers.binds (ps := p_check_numbers) fun _ _ _ _ _ _ us hl => match us, hl with | [_, _], _ => rfl
  have b_fewest_presses : Binds K fd_fewest_presses p_fewest_presses [] := F_fewest_presses.binds (ps := p_fewest_presses) fun _ _ _ _ _ _ us hl => match us, hl with | [_, _], _ => rfl
  have b_told_presses : Binds K fd_told_presses p_told_presses [] := F_told_presses.binds (ps := p_told_presses) fun _ _ _ _ _ _ us hl => match us, hl with | [_, _], _ => rfl
  have b__law_draws : Binds K fd__law_draws p__law_draws [] := F__law_draws.binds (ps := p__law_draws) fun _ _ _ _ _ _ us hl => match us, hl with | [_], _ => rfl
  have b__law_take : Binds K fd__law_take p__law_take [] := F__law_take.binds (ps := p__law_take) fun _ _ _ _ _ _ us hl => match us, hl with | [_, _], _ => rfl
  have b__law_alike : Binds K fd__law_alike p__law_alike [] := F__law_alike.binds (ps := p__law_alike) fun _ _ _ _ _ _ us hl => match us, hl with | [_, _], _ => rfl
  have b__law_told : Binds K fd__law_told p__law_told [] := F__law_told.binds (ps := p__law_told) fun _ _ _ _ _ _ us hl => match us, hl with | [_, _, _], _ => rfl
  have b__law_levels : Binds K fd__law_levels p__law_levels [] := F__law_levels.binds (ps := p__law_levels) fun _ _ _ _ _ _ us hl => match us, hl with | [_, _], _ => rfl
  have b__law_few : Binds K fd__law_few p__law_few [] := F__law_few.binds (ps := p__law_few) fun _ _ _ _ _ _ us hl => match us, hl with | [_, _], _ => rfl
  have b_law : Binds K fd_law p_law [] := F_law.binds (ps := p_law) fun _ _ _ _ _ _ us hl => match us, hl with | [_], _ => rfl
  have b__law_word : Binds K fd__law_word ["e"] [] := F__law_word.binds (ps := ["e"]) fun _ _ _ _ _ _ us hl => match us, hl with | [_], _ => rfl
  let wd : Addr → Option Str := fun D => if D = C_OutOfRange then some (Str.ofString "range") else if D = C_Refused then some (Str.ofString "refused") else if D = C_TooMuch then some (Str.ofString "much") else none
  have w_OutOfRange : wd C_OutOfRange = some (Str.ofString "range") := if_pos rfl
  have n_OutOfRange_Refused : C_Refused ≠ C_OutOfRange := fun h => by
    have a := k_Refused_OutOfRange
    rw [h, k_OutOfRange_OutOfRange] at a
    cases a
  have w_Refused : wd C_Refused = some (Str.ofString "refused") := (if_neg n_OutOfRange_Refused).trans (if_pos rfl)
  have n_OutOfRange_TooMuch : C_TooMuch ≠ C_OutOfRange := fun h => by
    have a := k_TooMuch_OutOfRange
    rw [h, k_OutOfRange_OutOfRange] at a
    cases a
  have n_Refused_TooMuch : C_TooMuch ≠ C_Refused := fun h => by
    have a := k_TooMuch_Refused
    rw [h, k_Refused_Refused] at a
    cases a
  have w_TooMuch : wd C_TooMuch = some (Str.ofString "much") := (if_neg n_OutOfRange_TooMuch).trans ((if_neg n_Refused_TooMuch).trans (if_pos rfl))
  have hw : ∀ k, WordOk P w K mg base (k + 1) "_law_word" C_KiteError f__law_word fd__law_word wd := by
    intro k
    refine ⟨fun D z h => ?_, fun D z h => ?_, m__law_word, F__law_word.kp, b__law_word⟩
    · have h : (if D = C_OutOfRange then some (Str.ofString "range") else if D = C_Refused then some (Str.ofString "refused") else if D = C_TooMuch then some (Str.ofString "much") else none) = some z := h
      by_cases g0 : D = C_OutOfRange
      · have hz : some (Str.ofString "range") = some z := (if_pos g0).symm.trans h
        have hz := Option.some.inj hz
        clear h
        subst hz
        subst g0
        exact e_OutOfRange
      rw [if_neg g0] at h
      by_cases g1 : D = C_Refused
      · have hz : some (Str.ofString "refused") = some z := (if_pos g1).symm.trans h
        have hz := Option.some.inj hz
        clear h
        subst hz
        subst g1
        exact e_Refused
      rw [if_neg g1] at h
      by_cases g2 : D = C_TooMuch
      · have hz : some (Str.ofString "much") = some z := (if_pos g2).symm.trans h
        have hz := Option.some.inj hz
        clear h
        subst hz
        subst g2
        exact e_TooMuch
      rw [if_neg g2] at h
      cases h
    · have h : (if D = C_OutOfRange then some (Str.ofString "range") else if D = C_Refused then some (Str.ofString "refused") else if D = C_TooMuch then some (Str.ofString "much") else none) = some z := h
      by_cases g0 : D = C_OutOfRange
      · have hz : some (Str.ofString "range") = some z := (if_pos g0).symm.trans h
        have hz := Option.some.inj hz
        clear h
        subst hz
        subst g0
        exact word_ok Z F__law_word X_OutOfRange k_OutOfRange_OutOfRange k_OutOfRange_Malformed k_OutOfRange_NotThere k_OutOfRange_Refused k_OutOfRange_TooMuch rfl (j := 0) rfl (fun m b hm h => by match m, hm, h with | m + 0, hm, _ => exact absurd hm (by omega)) rfl
      rw [if_neg g0] at h
      by_cases g1 : D = C_Refused
      · have hz : some (Str.ofString "refused") = some z := (if_pos g1).symm.trans h
        have hz := Option.some.inj hz
        clear h
        subst hz
        subst g1
        exact word_ok Z F__law_word X_Refused k_Refused_OutOfRange k_Refused_Malformed k_Refused_NotThere k_Refused_Refused k_Refused_TooMuch rfl (j := 3) rfl (fun m b hm h => by match m, hm, h with | 0, _, h => exact (Option.some.inj h).symm | 1, _, h => exact (Option.some.inj h).symm | 2, _, h => exact (Option.some.inj h).symm| m + 3, hm, _ => exact absurd hm (by omega)) rfl
      rw [if_neg g1] at h
      by_cases g2 : D = C_TooMuch
      · have hz : some (Str.ofString "much") = some z := (if_pos g2).symm.trans h
        have hz := Option.some.inj hz
        clear h
        subst hz
        subst g2
        exact word_ok Z F__law_word X_TooMuch k_TooMuch_OutOfRange k_TooMuch_Malformed k_TooMuch_NotThere k_TooMuch_Refused k_TooMuch_TooMuch rfl (j := 4) rfl (fun m b hm h => by match m, hm, h with | 0, _, h => exact (Option.some.inj h).symm | 1, _, h => exact (Option.some.inj h).symm | 2, _, h => exact (Option.some.inj h).symm | 3, _, h => exact (Option.some.inj h).symm| m + 4, hm, _ => exact absurd hm (by omega)) rfl
      rw [if_neg g2] at h
      cases h
  have c_is_number := ok_is_number (k := 0) (base := base) (P := P) (w := w) Z F_is_number m_is_number b_is_number (sp := sp_is_number) (fun ds q x h => by obtain ⟨_, _, _, rfl, _⟩ := h; rfl) (is_number_ok)
  have c_pressed := ok_pressed (k := 0) (base := base) (P := P) (w := w) Z F_pressed m_pressed b_pressed (sp := (sp_pressed C_Refused)) (fun ds q x h => by obtain ⟨_, _, rfl, _⟩ := h; rfl) (pressed_ok)
  have c_check_numbers := ok_check_numbers (k := 1) (base := base) (P := P) (w := w) Z (c_is_number.mono (by decide)) F_check_numbers m_check_numbers b_check_numbers (sp := (sp_chk C_OutOfRange)) (fun ds q x h => by obtain ⟨_, _, rfl, _⟩ := h; rfl) (chk_ok)
  have c_fewest_presses := ok_fewest_presses (k := 2) (base := base) (P := P) (w := w) Z (c_check_numbers.mono (by decide)) F_fewest_presses m_fewest_presses b_fewest_presses (sp := (sp_fewest C_OutOfRange)) (fun ds q x h => by obtain ⟨_, _, rfl, _⟩ := h; rfl) (fewest_ok)
  have c_told_presses := ok_told_presses (k := 3) (base := base) (P := P) (w := w) Z (c_fewest_presses.mono (by decide)) F_told_presses m_told_presses b_told_presses (sp := (sp_tp C_OutOfRange C_TooMuch)) (fun ds q x h => by obtain ⟨_, _, rfl, _⟩ := h; rfl) (tp_ok)
  have c__law_draws := ok__law_draws (k := 0) (base := base) (P := P) (w := w) Z F__law_draws m__law_draws b__law_draws (sp := sp_draws) (fun ds q x h => by obtain ⟨_, rfl, _⟩ := h; rfl) (draws_ok)
  have c__law_take := ok__law_take (k := 0) (base := base) (P := P) (w := w) Z F__law_take m__law_take b__law_take (sp := sp_take) (fun d ds q x h => by obtain ⟨_, _, rfl, rfl, _⟩ := h; rfl) (take_ok)
  have c_alike0 := ok__law_alike (k := 0) (base := base) (P := P) (w := w) Z (CallD.bot m__law_alike F__law_alike.kp b__law_alike) F__law_alike m__law_alike b__law_alike (sp := LW.sp_alikeN 0) (fun ds q x h => by obtain ⟨_, rfl, _⟩ := h; rfl) (LW.alikeN0_ok _)
  have c__law_alike := ok__law_alike (k := 1) (base := base) (P := P) (w := w) Z c_alike0 F__law_alike m__law_alike b__law_alike (sp := LW.sp_alikeN 1) (fun ds q x h => by obtain ⟨_, rfl, _⟩ := h; rfl) (LW.alikeN_ok 0 1 (by decide))
  have c__law_told := ok__law_told (k := 4) (base := base) (P := P) (w := w) Z (c_pressed.mono (by decide)) (c_fewest_presses.mono (by decide)) (c_told_presses.mono (by decide)) (hw 3) F__law_told m__law_told b__law_told (sp := (sp_told C_OutOfRange)) (fun ds q x h => by obtain ⟨_, _, _, rfl, _⟩ := h; rfl) (told_ok w_OutOfRange w_Refused w_TooMuch)
  have c__law_levels := ok__law_levels (k := 0) (base := base) (P := P) (w := w) Z F__law_levels m__law_levels b__law_levels (sp := sp_levels) (fun ds q x h => by obtain ⟨_, rfl, _⟩ := h; rfl) (levels_ok)
  have c__law_few := ok__law_few (k := 0) (base := base) (P := P) (w := w) Z F__law_few m__law_few b__law_few (sp := sp_lfew) (fun ds q x h => by obtain ⟨_, _, rfl, _⟩ := h; rfl) (lfew_ok)
  exact fn_ok (k := 5) F_law sc_law (fun ds q x h => by obtain ⟨_, rfl, _⟩ := h; rfl) (fun cdv A outer s H E hr => d_law Z (c__law_draws.mono (by decide)) (c__law_take.mono (by decide)) (c__law_levels.mono (by decide)) (c__law_alike.mono (by decide)) (c__law_told.mono (by decide)) (c__law_few.mono (by decide)) cdv A outer s H E hr) (law_ok)
theorem ends {l : PySem.W.OpenLaw} {w : World} {K : PySem.W.Frag} {h : Heap} {mg : Str → Option Value} {fa : Addr} {C_KiteError C_OutOfRange C_Malformed C_NotThere C_Refused C_TooMuch : Addr} (X : K.In h) (G : h.Ns mainGlobals mg) (hfa : mg "law" = some (.ref fa))
    {f_is_number : Addr} {od_is_number an_is_number : Option Addr} {sl_is_number : Array (Option Value)} {oc_is_number kV_is_number dc_is_number pm_is_number cd_is_number ct_is_number : Value}
    (a_is_number : PySem.W.nsIn K mainGlobals "is_number" = some (some (.ref f_is_number))) (l_is_number : K.lookup f_is_number = some ⟨oc_is_number, od_is_number, .func (PySem.W.fnOf "is_number" "is_number" (defArgs s_is_number) (defBody s_is_number) (defScope s_is_number) .none kV_is_number dc_is_number pm_is_number an_is_number cd_is_number ct_is_number), sl_is_number⟩) (u_is_number : PySem.W.codeIn K cd_is_number "is_number" = true) (v_is_number : PySem.W.keepIn K (.ref f_is_number) = true)
    {f_pressed : Addr} {od_pressed an_pressed : Option Addr} {sl_pressed : Array (Option Value)} {oc_pressed kV_pressed dc_pressed pm_pressed cd_pressed ct_pressed : Value}
    (a_pressed : PySem.W.nsIn K mainGlobals "pressed" = some (some (.ref f_pressed))) (l_pressed : K.lookup f_pressed = some ⟨oc_pressed, od_pressed, .func (PySem.W.fnOf "pressed" "pressed" (defArgs s_pressed) (defBody s_pressed) (defScope s_pressed) .none kV_pressed dc_pressed pm_pressed an_pressed cd_pressed ct_pressed), sl_pressed⟩) (u_pressed : PySem.W.codeIn K cd_pressed "pressed" = true) (v_pressed : PySem.W.keepIn K (.ref f_pressed) = true)
    {f_check_numbers : Addr} {od_check_numbers an_check_numbers : Option Addr} {sl_check_numbers : Array (Option Value)} {oc_check_numbers kV_check_numbers dc_check_numbers pm_check_numbers cd_check_numbers ct_check_numbers : Value}
    (a_check_numbers : PySem.W.nsIn K mainGlobals "check_numbers" = some (some (.ref f_check_numbers))) (l_check_numbers : K.lookup f_check_numbers = some ⟨oc_check_numbers, od_check_numbers, .func (PySem.W.fnOf "check_numbers" "check_numbers" (defArgs s_check_numbers) (defBody s_check_numbers) (defScope s_check_numbers) .none kV_check_numbers dc_check_numbers pm_check_numbers an_check_numbers cd_check_numbers ct_check_numbers), sl_check_numbers⟩) (u_check_numbers : PySem.W.codeIn K cd_check_numbers "check_numbers" = true) (v_check_numbers : PySem.W.keepIn K (.ref f_check_numbers) = true)
    {f_fewest_presses : Addr} {od_fewest_presses an_fewest_presses : Option Addr} {sl_fewest_presses : Array (Option Value)} {oc_fewest_presses kV_fewest_presses dc_fewest_presses pm_fewest_presses cd_fewest_presses ct_fewest_presses : Value}
    (a_fewest_presses : PySem.W.nsIn K mainGlobals "fewest_presses" = some (some (.ref f_fewest_presses))) (l_fewest_presses : K.lookup f_fewest_presses = some ⟨oc_fewest_presses, od_fewest_presses, .func (PySem.W.fnOf "fewest_presses" "fewest_presses" (defArgs s_fewest_presses) (defBody s_fewest_presses) (defScope s_fewest_presses) .none kV_fewest_presses dc_fewest_presses pm_fewest_presses an_fewest_presses cd_fewest_presses ct_fewest_presses), sl_fewest_presses⟩) (u_fewest_presses : PySem.W.codeIn K cd_fewest_presses "fewest_presses" = true) (v_fewest_presses : PySem.W.keepIn K (.ref f_fewest_presses) = true)
    {f_told_presses : Addr} {od_told_presses an_told_presses : Option Addr} {sl_told_presses : Array (Option Value)} {oc_told_presses kV_told_presses dc_told_presses pm_told_presses cd_told_presses ct_told_presses : Value}
    (a_told_presses : PySem.W.nsIn K mainGlobals "told_presses" = some (some (.ref f_told_presses))) (l_told_presses : K.lookup f_told_presses = some ⟨oc_told_presses, od_told_presses, .func (PySem.W.fnOf "told_presses" "told_presses" (defArgs s_told_presses) (defBody s_told_presses) (defScope s_told_presses) .none kV_told_presses dc_told_presses pm_told_presses an_told_presses cd_told_presses ct_told_presses), sl_told_presses⟩) (u_told_presses : PySem.W.codeIn K cd_told_presses "told_presses" = true) (v_told_presses : PySem.W.keepIn K (.ref f_told_presses) = true)
    {f__law_draws : Addr} {od__law_draws an__law_draws : Option Addr} {sl__law_draws : Array (Option Value)} {oc__law_draws kV__law_draws dc__law_draws pm__law_draws cd__law_draws ct__law_draws : Value}
    (a__law_draws : PySem.W.nsIn K mainGlobals "_law_draws" = some (some (.ref f__law_draws))) (l__law_draws : K.lookup f__law_draws = some ⟨oc__law_draws, od__law_draws, .func (PySem.W.fnOf "_law_draws" "_law_draws" (defArgs s__law_draws) (defBody s__law_draws) (defScope s__law_draws) .none kV__law_draws dc__law_draws pm__law_draws an__law_draws cd__law_draws ct__law_draws), sl__law_draws⟩) (u__law_draws : PySem.W.codeIn K cd__law_draws "_law_draws" = true) (v__law_draws : PySem.W.keepIn K (.ref f__law_draws) = true)
    {f__law_take : Addr} {od__law_take an__law_take : Option Addr} {sl__law_take : Array (Option Value)} {oc__law_take kV__law_take dc__law_take pm__law_take cd__law_take ct__law_take : Value}
    (a__law_take : PySem.W.nsIn K mainGlobals "_law_take" = some (some (.ref f__law_take))) (l__law_take : K.lookup f__law_take = some ⟨oc__law_take, od__law_take, .func (PySem.W.fnOf "_law_take" "_law_take" (defArgs s__law_take) (defBody s__law_take) (defScope s__law_take) .none kV__law_take dc__law_take pm__law_take an__law_take cd__law_take ct__law_take), sl__law_take⟩) (u__law_take : PySem.W.codeIn K cd__law_take "_law_take" = true) (v__law_take : PySem.W.keepIn K (.ref f__law_take) = true)
    {f__law_alike : Addr} {od__law_alike an__law_alike : Option Addr} {sl__law_alike : Array (Option Value)} {oc__law_alike kV__law_alike dc__law_alike pm__law_alike cd__law_alike ct__law_alike : Value}
    (a__law_alike : PySem.W.nsIn K mainGlobals "_law_alike" = some (some (.ref f__law_alike))) (l__law_alike : K.lookup f__law_alike = some ⟨oc__law_alike, od__law_alike, .func (PySem.W.fnOf "_law_alike" "_law_alike" (defArgs s__law_alike) (defBody s__law_alike) (defScope s__law_alike) .none kV__law_alike dc__law_alike pm__law_alike an__law_alike cd__law_alike ct__law_alike), sl__law_alike⟩) (u__law_alike : PySem.W.codeIn K cd__law_alike "_law_alike" = true) (v__law_alike : PySem.W.keepIn K (.ref f__law_alike) = true)
    {f__law_told : Addr} {od__law_told an__law_told : Option Addr} {sl__law_told : Array (Option Value)} {oc__law_told kV__law_told dc__law_told pm__law_told cd__law_told ct__law_told : Value}
    (a__law_told : PySem.W.nsIn K mainGlobals "_law_told" = some (some (.ref f__law_told))) (l__law_told : K.lookup f__law_told = some ⟨oc__law_told, od__law_told, .func (PySem.W.fnOf "_law_told" "_law_told" (defArgs s__law_told) (defBody s__law_told) (defScope s__law_told) .none kV__law_told dc__law_told pm__law_told an__law_told cd__law_told ct__law_told), sl__law_told⟩) (u__law_told : PySem.W.codeIn K cd__law_told "_law_told" = true) (v__law_told : PySem.W.keepIn K (.ref f__law_told) = true)
    {f__law_levels : Addr} {od__law_levels an__law_levels : Option Addr} {sl__law_levels : Array (Option Value)} {oc__law_levels kV__law_levels dc__law_levels pm__law_levels cd__law_levels ct__law_levels : Value}
    (a__law_levels : PySem.W.nsIn K mainGlobals "_law_levels" = some (some (.ref f__law_levels))) (l__law_levels : K.lookup f__law_levels = some ⟨oc__law_levels, od__law_levels, .func (PySem.W.fnOf "_law_levels" "_law_levels" (defArgs s__law_levels) (defBody s__law_levels) (defScope s__law_levels) .none kV__law_levels dc__law_levels pm__law_levels an__law_levels cd__law_levels ct__law_levels), sl__law_levels⟩) (u__law_levels : PySem.W.codeIn K cd__law_levels "_law_levels" = true) (v__law_levels : PySem.W.keepIn K (.ref f__law_levels) = true)
    {f__law_few : Addr} {od__law_few an__law_few : Option Addr} {sl__law_few : Array (Option Value)} {oc__law_few kV__law_few dc__law_few pm__law_few cd__law_few ct__law_few : Value}
    (a__law_few : PySem.W.nsIn K mainGlobals "_law_few" = some (some (.ref f__law_few))) (l__law_few : K.lookup f__law_few = some ⟨oc__law_few, od__law_few, .func (PySem.W.fnOf "_law_few" "_law_few" (defArgs s__law_few) (defBody s__law_few) (defScope s__law_few) .none kV__law_few dc__law_few pm__law_few an__law_few cd__law_few ct__law_few), sl__law_few⟩) (u__law_few : PySem.W.codeIn K cd__law_few "_law_few" = true) (v__law_few : PySem.W.keepIn K (.ref f__law_few) = true)
    {f_law : Addr} {od_law an_law : Option Addr} {sl_law : Array (Option Value)} {oc_law kV_law dc_law pm_law cd_law ct_law : Value}
    (a_law : PySem.W.nsIn K mainGlobals "law" = some (some (.ref f_law))) (l_law : K.lookup f_law = some ⟨oc_law, od_law, .func (PySem.W.fnOf "law" "law" (defArgs s_law) (defBody s_law) (defScope s_law) .none kV_law dc_law pm_law an_law cd_law ct_law), sl_law⟩) (u_law : PySem.W.codeIn K cd_law "law" = true) (v_law : PySem.W.keepIn K (.ref f_law) = true)
    {f__law_word : Addr} {od__law_word an__law_word : Option Addr} {sl__law_word : Array (Option Value)} {oc__law_word kV__law_word dc__law_word pm__law_word cd__law_word ct__law_word : Value}
    (a__law_word : PySem.W.nsIn K mainGlobals "_law_word" = some (some (.ref f__law_word))) (l__law_word : K.lookup f__law_word = some ⟨oc__law_word, od__law_word, .func (PySem.W.fnOf "_law_word" "_law_word" (defArgs s__law_word) (defBody s__law_word) (defScope s__law_word) .none kV__law_word dc__law_word pm__law_word an__law_word cd__law_word ct__law_word), sl__law_word⟩) (u__law_word : PySem.W.codeIn K cd__law_word "_law_word" = true) (v__law_word : PySem.W.keepIn K (.ref f__law_word) = true)
    (z_abs : PySem.W.nsIn K mainGlobals "abs" = some none)
    (z_bool : PySem.W.nsIn K mainGlobals "bool" = some none)
    (z_int : PySem.W.nsIn K mainGlobals "int" = some none)
    (z_isinstance : PySem.W.nsIn K mainGlobals "isinstance" = some none)
    (z_len : PySem.W.nsIn K mainGlobals "len" = some none)
    (z_list : PySem.W.nsIn K mainGlobals "list" = some none)
    (z_max : PySem.W.nsIn K mainGlobals "max" = some none)
    (z_range : PySem.W.nsIn K mainGlobals "range" = some none)
    (z_reversed : PySem.W.nsIn K mainGlobals "reversed" = some none)
    (z_str : PySem.W.nsIn K mainGlobals "str" = some none)
    (z_tuple : PySem.W.nsIn K mainGlobals "tuple" = some none)
    {t_GREATEST : Tok} (g_GREATEST : PySem.W.nsIn K mainGlobals "GREATEST" = some (some (.int 1000000000000000000000000000000 t_GREATEST)))
    {t_MOST_TOLD : Tok} (g_MOST_TOLD : PySem.W.nsIn K mainGlobals "MOST_TOLD" = some (some (.int 10000 t_MOST_TOLD)))
    (n_KiteError : PySem.W.nsIn K mainGlobals "KiteError" = some (some (.ref C_KiteError))) (e1_KiteError : PySem.W.excIn K C_KiteError [.type "ValueError", .type "Exception", .type "BaseException", .type "object"] "ValueError.__new__" = true) (e2_KiteError : PySem.W.keepIn K (.ref C_KiteError) = true) (e3_KiteError : PySem.W.subIn K (.ref C_KiteError) (.type "BaseException") = some true) (e4_KiteError : PySem.W.typeIn K (.ref C_KiteError) = some (.type "type")) (e5_KiteError : PySem.W.isClsIn K C_KiteError = true)
    (n_OutOfRange : PySem.W.nsIn K mainGlobals "OutOfRange" = some (some (.ref C_OutOfRange))) (e1_OutOfRange : PySem.W.excIn K C_OutOfRange [.type "ValueError", .type "Exception", .type "BaseException", .type "object"] "ValueError.__new__" = true) (e2_OutOfRange : PySem.W.keepIn K (.ref C_OutOfRange) = true) (e3_OutOfRange : PySem.W.subIn K (.ref C_OutOfRange) (.type "BaseException") = some true) (e4_OutOfRange : PySem.W.typeIn K (.ref C_OutOfRange) = some (.type "type")) (e5_OutOfRange : PySem.W.isClsIn K C_OutOfRange = true)
    (n_Malformed : PySem.W.nsIn K mainGlobals "Malformed" = some (some (.ref C_Malformed))) (e1_Malformed : PySem.W.excIn K C_Malformed [.type "ValueError", .type "Exception", .type "BaseException", .type "object"] "ValueError.__new__" = true) (e2_Malformed : PySem.W.keepIn K (.ref C_Malformed) = true) (e3_Malformed : PySem.W.subIn K (.ref C_Malformed) (.type "BaseException") = some true) (e4_Malformed : PySem.W.typeIn K (.ref C_Malformed) = some (.type "type")) (e5_Malformed : PySem.W.isClsIn K C_Malformed = true)
    (n_NotThere : PySem.W.nsIn K mainGlobals "NotThere" = some (some (.ref C_NotThere))) (e1_NotThere : PySem.W.excIn K C_NotThere [.type "ValueError", .type "Exception", .type "BaseException", .type "object"] "ValueError.__new__" = true) (e2_NotThere : PySem.W.keepIn K (.ref C_NotThere) = true) (e3_NotThere : PySem.W.subIn K (.ref C_NotThere) (.type "BaseException") = some true) (e4_NotThere : PySem.W.typeIn K (.ref C_NotThere) = some (.type "type")) (e5_NotThere : PySem.W.isClsIn K C_NotThere = true)
    (n_Refused : PySem.W.nsIn K mainGlobals "Refused" = some (some (.ref C_Refused))) (e1_Refused : PySem.W.excIn K C_Refused [.type "ValueError", .type "Exception", .type "BaseException", .type "object"] "ValueError.__new__" = true) (e2_Refused : PySem.W.keepIn K (.ref C_Refused) = true) (e3_Refused : PySem.W.subIn K (.ref C_Refused) (.type "BaseException") = some true) (e4_Refused : PySem.W.typeIn K (.ref C_Refused) = some (.type "type")) (e5_Refused : PySem.W.isClsIn K C_Refused = true)
    (n_TooMuch : PySem.W.nsIn K mainGlobals "TooMuch" = some (some (.ref C_TooMuch))) (e1_TooMuch : PySem.W.excIn K C_TooMuch [.type "ValueError", .type "Exception", .type "BaseException", .type "object"] "ValueError.__new__" = true) (e2_TooMuch : PySem.W.keepIn K (.ref C_TooMuch) = true) (e3_TooMuch : PySem.W.subIn K (.ref C_TooMuch) (.type "BaseException") = some true) (e4_TooMuch : PySem.W.typeIn K (.ref C_TooMuch) = some (.type "type")) (e5_TooMuch : PySem.W.isClsIn K C_TooMuch = true)
    (x1_OutOfRange : PySem.W.findIn K (.ref C_OutOfRange) "__getattribute__" = some (some (.builtin "BaseException.__getattribute__"))) (x2_OutOfRange : PySem.W.findIn K (.ref C_OutOfRange) "__getattr__" = some none) (x3_OutOfRange : PySem.W.hasDictIn K C_OutOfRange = true) (x4_OutOfRange : PySem.W.findIn K (.ref C_OutOfRange) "__class__" = some (some (.builtin "object.__class__")))
    (x5_OutOfRange : PySem.W.specialIn K (.builtin "object.__class__") "__get__" = some (some (.builtin "getset_descriptor.__get__"))) (x6_OutOfRange : PySem.W.takesIn K (.builtin "object.__class__") = some true) (x7_OutOfRange : PySem.W.mroIn K C_OutOfRange (.type "object") = some true)
    (k_OutOfRange_OutOfRange : PySem.W.subIn K (.ref C_OutOfRange) (.ref C_OutOfRange) = some true) (k_OutOfRange_Malformed : PySem.W.subIn K (.ref C_OutOfRange) (.ref C_Malformed) = some false) (k_OutOfRange_NotThere : PySem.W.subIn K (.ref C_OutOfRange) (.ref C_NotThere) = some false) (k_OutOfRange_Refused : PySem.W.subIn K (.ref C_OutOfRange) (.ref C_Refused) = some false) (k_OutOfRange_TooMuch : PySem.W.subIn K (.ref C_OutOfRange) (.ref C_TooMuch) = some false) (e_OutOfRange : PySem.W.subIn K (.ref C_OutOfRange) (.ref C_KiteError) = some true)
    (x1_Refused : PySem.W.findIn K (.ref C_Refused) "__getattribute__" = some (some (.builtin "BaseException.__getattribute__"))) (x2_Refused : PySem.W.findIn K (.ref C_Refused) "__getattr__" = some none) (x3_Refused : PySem.W.hasDictIn K C_Refused = true) (x4_Refused : PySem.W.findIn K (.ref C_Refused) "__class__" = some (some (.builtin "object.__class__")))
    (x5_Refused : PySem.W.specialIn K (.builtin "object.__class__") "__get__" = some (some (.builtin "getset_descriptor.__get__"))) (x6_Refused : PySem.W.takesIn K (.builtin "object.__class__") = some true) (x7_Refused : PySem.W.mroIn K C_Refused (.type "object") = some true)
    (k_Refused_OutOfRange : PySem.W.subIn K (.ref C_Refused) (.ref C_OutOfRange) = some false) (k_Refused_Malformed : PySem.W.subIn K (.ref C_Refused) (.ref C_Malformed) = some false) (k_Refused_NotThere : PySem.W.subIn K (.ref C_Refused) (.ref C_NotThere) = some false) (k_Refused_Refused : PySem.W.subIn K (.ref C_Refused) (.ref C_Refused) = some true) (k_Refused_TooMuch : PySem.W.subIn K (.ref C_Refused) (.ref C_TooMuch) = some false) (e_Refused : PySem.W.subIn K (.ref C_Refused) (.ref C_KiteError) = some true)
    (x1_TooMuch : PySem.W.findIn K (.ref C_TooMuch) "__getattribute__" = some (some (.builtin "BaseException.__getattribute__"))) (x2_TooMuch : PySem.W.findIn K (.ref C_TooMuch) "__getattr__" = some none) (x3_TooMuch : PySem.W.hasDictIn K C_TooMuch = true) (x4_TooMuch : PySem.W.findIn K (.ref C_TooMuch) "__class__" = some (some (.builtin "object.__class__")))
    (x5_TooMuch : PySem.W.specialIn K (.builtin "object.__class__") "__get__" = some (some (.builtin "getset_descriptor.__get__"))) (x6_TooMuch : PySem.W.takesIn K (.builtin "object.__class__") = some true) (x7_TooMuch : PySem.W.mroIn K C_TooMuch (.type "object") = some true)
    (k_TooMuch_OutOfRange : PySem.W.subIn K (.ref C_TooMuch) (.ref C_OutOfRange) = some false) (k_TooMuch_Malformed : PySem.W.subIn K (.ref C_TooMuch) (.ref C_Malformed) = some false) (k_TooMuch_NotThere : PySem.W.subIn K (.ref C_TooMuch) (.ref C_NotThere) = some false) (k_TooMuch_Refused : PySem.W.subIn K (.ref C_TooMuch) (.ref C_Refused) = some false) (k_TooMuch_TooMuch : PySem.W.subIn K (.ref C_TooMuch) (.ref C_TooMuch) = some true) (e_TooMuch : PySem.W.subIn K (.ref C_TooMuch) (.ref C_KiteError) = some true)
    : ∃ fd : FuncData, (∀ (s : Shared) (v : Value), BindsTo s fd ⟨[v], []⟩ [("script", v)]) ∧ ∀ base : Heap, K.In base → base.Ns mainGlobals mg → FnOk l.prog w K mg base (L2N.CX l.prog w) 6 fa fd ["script"] (liftSp K sp_law) := by
  have e := hfa.symm.trans (PySem.W.mg_of X G a_law)
  cases e
  have F_is_number := fun_mk (st := s_is_number) l_is_number u_is_number v_is_number
  have F_pressed := fun_mk (st := s_pressed) l_pressed u_pressed v_pressed
  have F_check_numbers := fun_mk (st := s_check_numbers) l_check_numbers u_check_numbers v_check_numbers
  have F_fewest_presses := fun_mk (st := s_fewest_presses) l_fewest_presses u_fewest_presses v_fewest_presses
  have F_told_presses := fun_mk (st := s_told_presses) l_told_presses u_told_presses v_told_presses
  have F__law_draws := fun_mk (st := s__law_draws) l__law_draws u__law_draws v__law_draws
  have F__law_take := fun_mk (st := s__law_take) l__law_take u__law_take v__law_take
  have F__law_alike := fun_mk (st := s__law_alike) l__law_alike u__law_alike v__law_alike
  have F__law_told := fun_mk (st := s__law_told) l__law_told u__law_told v__law_told
  have F__law_levels := fun_mk (st := s__law_levels) l__law_levels u__law_levels v__law_levels
  have F__law_few := fun_mk (st := s__law_few) l__law_few u__law_few v__law_few
  have F_law := fun_mk (st := s_law) l_law u_law v_law
  have F__law_word := fun_mk (st := s__law_word) l__law_word u__law_word v__law_word
  have E_KiteError : ErrC K mg "KiteError" C_KiteError := ⟨e1_KiteError, PySem.W.mg_of X G n_KiteError, e2_KiteError, e3_KiteError, e4_KiteError⟩
  have E_OutOfRange : ErrC K mg "OutOfRange" C_OutOfRange := ⟨e1_OutOfRange, PySem.W.mg_of X G n_OutOfRange, e2_OutOfRange, e3_OutOfRange, e4_OutOfRange⟩
  have E_Malformed : ErrC K mg "Malformed" C_Malformed := ⟨e1_Malformed, PySem.W.mg_of X G n_Malformed, e2_Malformed, e3_Malformed, e4_Malformed⟩
  have E_NotThere : ErrC K mg "NotThere" C_NotThere := ⟨e1_NotThere, PySem.W.mg_of X G n_NotThere, e2_NotThere, e3_NotThere, e4_NotThere⟩
  have E_Refused : ErrC K mg "Refused" C_Refused := ⟨e1_Refused, PySem.W.mg_of X G n_Refused, e2_Refused, e3_Refused, e4_Refused⟩
  have E_TooMuch : ErrC K mg "TooMuch" C_TooMuch := ⟨e1_TooMuch, PySem.W.mg_of X G n_TooMuch, e2_TooMuch, e3_TooMuch, e4_TooMuch⟩
  have Z : Top K mg C_KiteError C_OutOfRange C_Malformed C_NotThere C_Refused C_TooMuch := {
    b_abs := PySem.W.mg_none_of X G z_abs
    b_bool := PySem.W.mg_none_of X G z_bool
    b_int := PySem.W.mg_none_of X G z_int
    b_isinstance := PySem.W.mg_none_of X G z_isinstance
    b_len := PySem.W.mg_none_of X G z_len
    b_list := PySem.W.mg_none_of X G z_list
    b_max := PySem.W.mg_none_of X G z_max
    b_range := PySem.W.mg_none_of X G z_range
    b_reversed := PySem.W.mg_none_of X G z_reversed
    b_str := PySem.W.mg_none_of X G z_str
    b_tuple := PySem.W.mg_none_of X G z_tuple
    g_GREATEST := ⟨_, PySem.W.mg_of X G g_GREATEST⟩
    g_MOST_TOLD := ⟨_, PySem.W.mg_of X G g_MOST_TOLD⟩
    x_KiteError := E_KiteError
    x_OutOfRange := E_OutOfRange
    x_Malformed := E_Malformed
    x_NotThere := E_NotThere
    x_Refused := E_Refused
    x_TooMuch := E_TooMuch
    }
  exact ⟨PySem.W.fnOf "law" "law" (defArgs s_law) (defBody s_law) (defScope s_law) .none kV_law dc_law pm_law an_law cd_law ct_law, fun s v => .of_eq rfl, fun base _ _ => chain Z
    F_is_number (PySem.W.mg_of X G a_is_number)
    F_pressed (PySem.W.mg_of X G a_pressed)
    F_check_numbers (PySem.W.mg_of X G a_check_numbers)
    F_fewest_presses (PySem.W.mg_of X G a_fewest_presses)
    F_told_presses (PySem.W.mg_of X G a_told_presses)
    F__law_draws (PySem.W.mg_of X G a__law_draws)
    F__law_take (PySem.W.mg_of X G a__law_take)
    F__law_alike (PySem.W.mg_of X G a__law_alike)
    F__law_told (PySem.W.mg_of X G a__law_told)
    F__law_levels (PySem.W.mg_of X G a__law_levels)
    F__law_few (PySem.W.mg_of X G a__law_few)
    F_law (PySem.W.mg_of X G a_law)
    F__law_word (PySem.W.mg_of X G a__law_word)
    ⟨x1_OutOfRange, x2_OutOfRange, E_OutOfRange.bC, x3_OutOfRange, x4_OutOfRange, x5_OutOfRange, x6_OutOfRange, x7_OutOfRange⟩ (DL.kit_own e5_OutOfRange e4_OutOfRange k_OutOfRange_OutOfRange k_OutOfRange_OutOfRange) (DL.kit_own e5_Malformed e4_Malformed k_OutOfRange_Malformed k_OutOfRange_OutOfRange) (DL.kit_own e5_NotThere e4_NotThere k_OutOfRange_NotThere k_OutOfRange_OutOfRange) (DL.kit_own e5_Refused e4_Refused k_OutOfRange_Refused k_OutOfRange_OutOfRange) (DL.kit_own e5_TooMuch e4_TooMuch k_OutOfRange_TooMuch k_OutOfRange_OutOfRange) (DL.exm_own e5_KiteError e3_KiteError e4_KiteError e_OutOfRange)
    ⟨x1_Refused, x2_Refused, E_Refused.bC, x3_Refused, x4_Refused, x5_Refused, x6_Refused, x7_Refused⟩ (DL.kit_own e5_OutOfRange e4_OutOfRange k_Refused_OutOfRange k_Refused_Refused) (DL.kit_own e5_Malformed e4_Malformed k_Refused_Malformed k_Refused_Refused) (DL.kit_own e5_NotThere e4_NotThere k_Refused_NotThere k_Refused_Refused) (DL.kit_own e5_Refused e4_Refused k_Refused_Refused k_Refused_Refused) (DL.kit_own e5_TooMuch e4_TooMuch k_Refused_TooMuch k_Refused_Refused) (DL.exm_own e5_KiteError e3_KiteError e4_KiteError e_Refused)
    ⟨x1_TooMuch, x2_TooMuch, E_TooMuch.bC, x3_TooMuch, x4_TooMuch, x5_TooMuch, x6_TooMuch, x7_TooMuch⟩ (DL.kit_own e5_OutOfRange e4_OutOfRange k_TooMuch_OutOfRange k_TooMuch_TooMuch) (DL.kit_own e5_Malformed e4_Malformed k_TooMuch_Malformed k_TooMuch_TooMuch) (DL.kit_own e5_NotThere e4_NotThere k_TooMuch_NotThere k_TooMuch_TooMuch) (DL.kit_own e5_Refused e4_Refused k_TooMuch_Refused k_TooMuch_TooMuch) (DL.kit_own e5_TooMuch e4_TooMuch k_TooMuch_TooMuch k_TooMuch_TooMuch) (DL.exm_own e5_KiteError e3_KiteError e4_KiteError e_TooMuch)
    ⟩
end K81
open PySem PySem.W PyProof.Rows
set_option maxHeartbeats 0 in
theorem PySem.Challenge.cw_kiteheld_k81_whole_presses_of_a_counter_holds : PySem.Challenge.rw_kiteheld_k81_whole_presses_of_a_counter.Holds := by
  w_on; o_law; k_head; (case hw => w_witness2)
  k_fill
  refine L2.walk_ofB (l := PySem.Challenge.rw_kiteheld_k81_whole_presses_of_a_counter) (n := 63) (k := 6) (x := "script") (CX := fun w => L2N.CX PySem.Challenge.rw_kiteheld_k81_whole_presses_of_a_counter.prog w) (sp := fun w => DL.liftSp _ K81.sp_law) rfl (by decide) rfl ⟨rfl, by decide, by decide⟩ (fun w h Y => PySem.W.kIn_of Y) ?F (fun w H a ns hl hb hO hS => DL.script_lift ⟨ns, rfl, hl, fun z hz => DL.bt_bits (hb z hz), rfl⟩ hO hS) (fun w H s e s' hc => hc.elim fun a ⟨B, H', cls, d, _, _, _, _, _, _, _, z⟩ => z)
  case F =>
    intro w mg fa h KX G hmg
    refine' K81.ends KX G hmg ?a_is_number ?l_is_number ?u_is_number ?v_is_number ?a_pressed ?l_pressed ?u_pressed ?v_pressed ?a_check_numbers ?l_check_numbers ?u_check_numbers ?v_check_numbers ?a_fewest_presses ?l_fewest_presses ?u_fewest_presses ?v_fewest_presses ?a_told_presses ?l_told_presses ?u_told_presses ?v_told_presses ?a__law_draws ?l__law_draws ?u__law_draws ?v__law_draws ?a__law_take ?l__law_take ?u__law_take ?v__law_take ?a__law_alike ?l__law_alike ?u__law_alike ?v__law_alike ?a__law_told ?l__law_told ?u__law_told ?v__law_told ?a__law_levels ?l__law_levels ?u__law_levels ?v__law_levels ?a__law_few ?l__law_few ?u__law_few ?v__law_few ?a_law ?l_law ?u_law ?v_law ?a__law_word ?l__law_word ?u__law_word ?v__law_word ?z_abs ?z_bool ?z_int ?z_isinstance ?z_len ?z_list ?z_max ?z_range ?z_reversed ?z_str ?z_tuple ?g_GREATEST ?g_MOST_TOLD ?n_KiteError ?e1_KiteError ?e2_KiteError ?e3_KiteError ?e4_KiteError ?e5_KiteError ?n_OutOfRange ?e1_OutOfRange ?e2_OutOfRange ?e3_OutOfRange ?e4_OutOfRange ?e5_OutOfRange ?n_Malformed ?e1_Malformed ?e2_Malformed ?e3_Malformed ?e4_Malformed ?e5_Malformed ?n_NotThere ?e1_NotThere ?e2_NotThere ?e3_NotThere ?e4_NotThere ?e5_NotThere ?n_Refused ?e1_Refused ?e2_Refused ?e3_Refused ?e4_Refused ?e5_Refused ?n_TooMuch ?e1_TooMuch ?e2_TooMuch ?e3_TooMuch ?e4_TooMuch ?e5_TooMuch ?x1_OutOfRange ?x2_OutOfRange ?x3_OutOfRange ?x4_OutOfRange ?x5_OutOfRange ?x6_OutOfRange ?x7_OutOfRange ?k_OutOfRange_OutOfRange ?k_OutOfRange_Malformed ?k_OutOfRange_NotThere ?k_OutOfRange_Refused ?k_OutOfRange_TooMuch ?e_OutOfRange ?x1_Refused ?x2_Refused ?x3_Refused ?x4_Refused ?x5_Refused ?x6_Refused ?x7_Refused ?k_Refused_OutOfRange ?k_Refused_Malformed ?k_Refused_NotThere ?k_Refused_Refused ?k_Refused_TooMuch ?e_Refused ?x1_TooMuch ?x2_TooMuch ?x3_TooMuch ?x4_TooMuch ?x5_TooMuch ?x6_TooMuch ?x7_TooMuch ?k_TooMuch_OutOfRange ?k_TooMuch_Malformed ?k_TooMuch_NotThere ?k_TooMuch_Refused ?k_TooMuch_TooMuch ?e_TooMuch
    (case a_is_number => k_is)
    (case l_is_number => k_is)
    (case u_is_number => k_is)
    (case v_is_number => k_is)
    (case a_pressed => k_is)
    (case l_pressed => k_is)
    (case u_pressed => k_is)
    (case v_pressed => k_is)
    (case a_check_numbers => k_is)
    (case l_check_numbers => k_is)
    (case u_check_numbers => k_is)
    (case v_check_numbers => k_is)
    (case a_fewest_presses => k_is)
    (case l_fewest_presses => k_is)
    (case u_fewest_presses => k_is)
    (case v_fewest_presses => k_is)
    (case a_told_presses => k_is)
    (case l_told_presses => k_is)
    (case u_told_presses => k_is)
    (case v_told_presses => k_is)
    (case a__law_draws => k_is)
    (case l__law_draws => k_is)
    (case u__law_draws => k_is)
    (case v__law_draws => k_is)
    (case a__law_take => k_is)
    (case l__law_take => k_is)
    (case u__law_take => k_is)
    (case v__law_take => k_is)
    (case a__law_alike => k_is)
    (case l__law_alike => k_is)
    (case u__law_alike => k_is)
    (case v__law_alike => k_is)
    (case a__law_told => k_is)
    (case l__law_told => k_is)
    (case u__law_told => k_is)
    (case v__law_told => k_is)
    (case a__law_levels => k_is)
    (case l__law_levels => k_is)
    (case u__law_levels => k_is)
    (case v__law_levels => k_is)
    (case a__law_few => k_is)
    (case l__law_few => k_is)
    (case u__law_few => k_is)
    (case v__law_few => k_is)
    (case a_law => k_is)
    (case l_law => k_is)
    (case u_law => k_is)
    (case v_law => k_is)
    (case a__law_word => k_is)
    (case l__law_word => k_is)
    (case u__law_word => k_is)
    (case v__law_word => k_is)
    (case z_abs => k_is)
    (case z_bool => k_is)
    (case z_int => k_is)
    (case z_isinstance => k_is)
    (case z_len => k_is)
    (case z_list => k_is)
    (case z_max => k_is)
    (case z_range => k_is)
    (case z_reversed => k_is)
    (case z_str => k_is)
    (case z_tuple => k_is)
    (case g_GREATEST => k_is)
    (case g_MOST_TOLD => k_is)
    (case n_KiteError => k_is)
    (case e1_KiteError => k_exc)
    (case e2_KiteError => k_is)
    (case e3_KiteError => k_is)
    (case e4_KiteError => k_is)
    (case e5_KiteError => k_is)
    (case n_OutOfRange => k_is)
    (case e1_OutOfRange => k_exc)
    (case e2_OutOfRange => k_is)
    (case e3_OutOfRange => k_is)
    (case e4_OutOfRange => k_is)
    (case e5_OutOfRange => k_is)
    (case n_Malformed => k_is)
    (case e1_Malformed => k_exc)
    (case e2_Malformed => k_is)
    (case e3_Malformed => k_is)
    (case e4_Malformed => k_is)
    (case e5_Malformed => k_is)
    (case n_NotThere => k_is)
    (case e1_NotThere => k_exc)
    (case e2_NotThere => k_is)
    (case e3_NotThere => k_is)
    (case e4_NotThere => k_is)
    (case e5_NotThere => k_is)
    (case n_Refused => k_is)
    (case e1_Refused => k_exc)
    (case e2_Refused => k_is)
    (case e3_Refused => k_is)
    (case e4_Refused => k_is)
    (case e5_Refused => k_is)
    (case n_TooMuch => k_is)
    (case e1_TooMuch => k_exc)
    (case e2_TooMuch => k_is)
    (case e3_TooMuch => k_is)
    (case e4_TooMuch => k_is)
    (case e5_TooMuch => k_is)
    (case x1_OutOfRange => k_is)
    (case x2_OutOfRange => k_is)
    (case x3_OutOfRange => k_is)
    (case x4_OutOfRange => k_is)
    (case x5_OutOfRange => k_is)
    (case x6_OutOfRange => k_is)
    (case x7_OutOfRange => k_is)
    (case k_OutOfRange_OutOfRange => k_is)
    (case k_OutOfRange_Malformed => k_is)
    (case k_OutOfRange_NotThere => k_is)
    (case k_OutOfRange_Refused => k_is)
    (case k_OutOfRange_TooMuch => k_is)
    (case e_OutOfRange => k_is)
    (case x1_Refused => k_is)
    (case x2_Refused => k_is)
    (case x3_Refused => k_is)
    (case x4_Refused => k_is)
    (case x5_Refused => k_is)
    (case x6_Refused => k_is)
    (case x7_Refused => k_is)
    (case k_Refused_OutOfRange => k_is)
    (case k_Refused_Malformed => k_is)
    (case k_Refused_NotThere => k_is)
    (case k_Refused_Refused => k_is)
    (case k_Refused_TooMuch => k_is)
    (case e_Refused => k_is)
    (case x1_TooMuch => k_is)
    (case x2_TooMuch => k_is)
    (case x3_TooMuch => k_is)
    (case x4_TooMuch => k_is)
    (case x5_TooMuch => k_is)
    (case x6_TooMuch => k_is)
    (case x7_TooMuch => k_is)
    (case k_TooMuch_OutOfRange => k_is)
    (case k_TooMuch_Malformed => k_is)
    (case k_TooMuch_NotThere => k_is)
    (case k_TooMuch_Refused => k_is)
    (case k_TooMuch_TooMuch => k_is)
    (case e_TooMuch => k_is)

