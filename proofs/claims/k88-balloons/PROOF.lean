import PyProof.Rows.All
import Wide.All
import OpenK.AllK
import Wide.FinOn
import HandS.ForMost
import HandS.ForExc
import HandS.Flow
import HandS.IsInst
import HandS.Wide
import HandS.AnyAll
import HandS.WideMore
import HandS.WideBits
import HandS.TupAny
import HandS.TupMul
import HandS.Style
import HandS.Walk
import HandS.ExcCtx
import HandS.HotCalls
import HandS.ExcIs
import HandS.Rev
import HandS.Gcd
import HandS.Small
import HandS.Conv
import HandS.SortInts
import HandS.Text
import PyProof.StrOps2
import PyProof.WalkInts
import HandS.EndTab
import HandS.EndOwn
import KE.KNestM
import HandS.EndBits
import PySem.Challenge.RW_kiteheld_k88_whole_balloons_that_sink
set_option Elab.async false
set_option linter.all false
set_option maxRecDepth 100000
set_option maxHeartbeats 4000000
/-! DL: a layer of plain data over the hand layer's readings. -/
namespace DL
open PySem PySem.Spec PyProof.Rows L2

/-- plain data -/
inductive D where
  | non | bl (b : Bool) | int (i : Int) | str (x : Str)
  | tup (xs : List D) | lst (xs : List D) | fz (xs : List D)
  | dic (kvs : List (Key × D)) | dit (kvs : List (List Key × D))
  | op (v : V)

/-- a tuple that is read, none of the hot ones -/
def SqTM (K : PySem.W.Frag) (M : Addr → Prop) (H : Hp) (a : Addr) (xs : List V) : Prop :=
  (Rd H a (.tup xs) ∧ ¬ M a) ∨
    ∃ (o : Obj) (its : Array Value) (n : Nat), K.lookup a = some o ∧ o.cls = .type "tuple" ∧ o.data = .seq its n ∧ its.size ≤ sizeLine ∧ Vals xs its.toList
/-- a list that is read alone: the script -/
def SqLM (K : PySem.W.Frag) (M : Addr → Prop) (H : Hp) (a : Addr) (xs : List V) : Prop :=
  (Rd H a (.lst xs) ∧ ¬ M a) ∨
    ∃ (o : Obj) (its : Array Value) (n : Nat), K.lookup a = some o ∧ o.cls = .type "list" ∧ o.dict = none ∧ o.data = .seq its n ∧ its.size ≤ sizeLine ∧ Vals xs its.toList
theorem SqLM.sq {K : PySem.W.Frag} {M : Addr → Prop} {H : Hp} {a : Addr} {xs : List V} (h : SqLM K M H a xs) : SqL K H a xs := by
  rcases h with h | h
  · exact .inl h.1
  · exact .inr h
theorem SqTM.sq {K : PySem.W.Frag} {M : Addr → Prop} {H : Hp} {a : Addr} {xs : List V} (h : SqTM K M H a xs) : SqT K H a xs := by
  rcases h with h | h
  · exact .inl h.1
  · exact .inr h

mutual
inductive Rep (K : PySem.W.Frag) (M : Addr → Prop) (H : Hp) : V → D → Prop
  | non : Rep K M H .non .non
  | bl (b : Bool) : Rep K M H (.bl b) (.bl b)
  | int (i : Int) : Rep K M H (.int i) (.int i)
  | str (x : Str) : Rep K M H (.str x) (.str x)
  | op (v : V) : Rep K M H v (.op v)
  | tup {a : Addr} {xs : List V} {ds : List D} : SqTM K M H a xs → RepL K M H xs ds → Rep K M H (.ref a) (.tup ds)
  | lst {a : Addr} {xs : List V} {ds : List D} : H a = some (.lst xs) → ¬ M a → RepL K M H xs ds → Rep K M H (.ref a) (.lst ds)
  | fz {a : Addr} {xs : List V} {ds : List D} : SqLM K M H a xs → RepL K M H xs ds → Rep K M H (.ref a) (.fz ds)
  | dic {a : Addr} {kvs : List (Key × V)} {kds : List (Key × D)} : H a = some (.dK kvs) → ¬ M a → RepK K M H kvs kds → Rep K M H (.ref a) (.dic kds)
  | dit {a : Addr} {kvs : List (List Key × V)} {kds : List (List Key × D)} : H a = some (.dT kvs) → ¬ M a → RepT K M H kvs kds → Rep K M H (.ref a) (.dit kds)
inductive RepL (K : PySem.W.Frag) (M : Addr → Prop) (H : Hp) : List V → List D → Prop
  | nil : RepL K M H [] []
  | cons {v : V} {vs : List V} {d : D} {ds : List D} : Rep K M H v d → RepL K M H vs ds → RepL K M H (v :: vs) (d :: ds)
inductive RepK (K : PySem.W.Frag) (M : Addr → Prop) (H : Hp) : List (Key × V) → List (Key × D) → Prop
  | nil : RepK K M H [] []
  | cons {k : Key} {v : V} {vs : List (Key × V)} {d : D} {ds : List (Key × D)} : Rep K M H v d → RepK K M H vs ds → RepK K M H ((k, v) :: vs) ((k, d) :: ds)
inductive RepT (K : PySem.W.Frag) (M : Addr → Prop) (H : Hp) : List (List Key × V) → List (List Key × D) → Prop
  | nil : RepT K M H [] []
  | cons {k : List Key} {v : V} {vs : List (List Key × V)} {d : D} {ds : List (List Key × D)} : Rep K M H v d → RepT K M H vs ds → RepT K M H ((k, v) :: vs) ((k, d) :: ds)
end

/-- what stood and was not hot stands and is not hot -/
def Keep (M : Addr → Prop) (H : Hp) (M' : Addr → Prop) (H' : Hp) : Prop := ∀ a o, H a = some o → ¬ M a → (∀ ps, o ≠ .tbl ps) → H' a = some o ∧ ¬ M' a
section
variable {K : PySem.W.Frag} {M M' : Addr → Prop} {H H' : Hp}
theorem SqLM.keep (k : Keep M H M' H') {a : Addr} {xs : List V} (h : SqLM K M H a xs) : SqLM K M' H' a xs := by
  rcases h with ⟨h | ⟨o, h⟩, n⟩ | h
  · exact .inl ⟨.inl (k _ _ h n (fun _ z => nomatch z)).1, (k _ _ h n (fun _ z => nomatch z)).2⟩
  · exact .inl ⟨.inr ⟨o, (k _ _ h n (fun _ z => nomatch z)).1⟩, (k _ _ h n (fun _ z => nomatch z)).2⟩
  · exact .inr h
theorem SqTM.keep (k : Keep M H M' H') {a : Addr} {xs : List V} (h : SqTM K M H a xs) : SqTM K M' H' a xs := by
  rcases h with ⟨h | ⟨o, h⟩, n⟩ | h
  · exact .inl ⟨.inl (k _ _ h n (fun _ z => nomatch z)).1, (k _ _ h n (fun _ z => nomatch z)).2⟩
  · exact .inl ⟨.inr ⟨o, (k _ _ h n (fun _ z => nomatch z)).1⟩, (k _ _ h n (fun _ z => nomatch z)).2⟩
  · exact .inr h
mutual
theorem Rep.keep (k : Keep M H M' H') : ∀ {v : V} {d : D}, Rep K M H v d → Rep K M' H' v d
  | _, _, .non => .non
  | _, _, .bl b => .bl b
  | _, _, .int i => .int i
  | _, _, .str x => .str x
  | _, _, .op v => .op v
  | _, _, .tup h r => .tup (h.keep k) (RepL.keep k r)
  | _, _, .lst h n r => .lst (k _ _ h n (fun _ z => nomatch z)).1 (k _ _ h n (fun _ z => nomatch z)).2 (RepL.keep k r)
  | _, _, .fz h r => .fz (h.keep k) (RepL.keep k r)
  | _, _, .dic h n r => .dic (k _ _ h n (fun _ z => nomatch z)).1 (k _ _ h n (fun _ z => nomatch z)).2 (RepK.keep k r)
  | _, _, .dit h n r => .dit (k _ _ h n (fun _ z => nomatch z)).1 (k _ _ h n (fun _ z => nomatch z)).2 (RepT.keep k r)
theorem RepL.keep (k : Keep M H M' H') : ∀ {v : List V} {d : List D}, RepL K M H v d → RepL K M' H' v d
  | _, _, .nil => .nil
  | _, _, .cons h r => .cons (Rep.keep k h) (RepL.keep k r)
theorem RepK.keep (k : Keep M H M' H') : ∀ {v : List (Key × V)} {d : List (Key × D)}, RepK K M H v d → RepK K M' H' v d
  | _, _, .nil => .nil
  | _, _, .cons h r => .cons (Rep.keep k h) (RepK.keep k r)
theorem RepT.keep (k : Keep M H M' H') : ∀ {v : List (List Key × V)} {d : List (List Key × D)}, RepT K M H v d → RepT K M' H' v d
  | _, _, .nil => .nil
  | _, _, .cons h r => .cons (Rep.keep k h) (RepT.keep k r)
end
theorem RepL.length : ∀ {v : List V} {d : List D}, RepL K M H v d → v.length = d.length
  | _, _, .nil => rfl
  | _, _, .cons _ r => by rw [List.length_cons, List.length_cons, RepL.length r]
theorem RepL.get : ∀ {v : List V} {d : List D} {i : Nat} {x : D}, RepL K M H v d → d[i]? = some x → ∃ u, v[i]? = some u ∧ Rep K M H u x
  | _, _, _, _, .nil, e => by simp at e
  | _, _, 0, _, .cons r _, e => by simp at e; subst e; exact ⟨_, rfl, r⟩
  | _, _, i + 1, x, .cons _ t, e => by
    obtain ⟨u, h1, h2⟩ := RepL.get (i := i) (x := x) t (by simpa using e)
    exact ⟨u, by simpa using h1, h2⟩
theorem RepL.get' : ∀ {v : List V} {d : List D} {i : Nat} {u : V}, RepL K M H v d → v[i]? = some u → ∃ x, d[i]? = some x ∧ Rep K M H u x
  | _, _, _, _, .nil, e => by simp at e
  | _, _, 0, _, .cons r _, e => by simp at e; subst e; exact ⟨_, rfl, r⟩
  | _, _, i + 1, x, .cons _ t, e => by
    obtain ⟨u, h1, h2⟩ := RepL.get' (i := i) (u := x) t (by simpa using e)
    exact ⟨u, by simpa using h1, h2⟩
theorem RepL.append : ∀ {v w : List V} {d e : List D}, RepL K M H v d → RepL K M H w e → RepL K M H (v ++ w) (d ++ e)
  | _, _, _, _, .nil, s => s
  | _, _, _, _, .cons r t, s => .cons r (RepL.append t s)
theorem RepL.take : ∀ {v : List V} {d : List D} (n : Nat), RepL K M H v d → RepL K M H (v.take n) (d.take n)
  | _, _, 0, _ => .nil
  | _, _, _ + 1, .nil => .nil
  | _, _, n + 1, .cons r t => .cons r (RepL.take n t)
theorem RepL.drop : ∀ {v : List V} {d : List D} (n : Nat), RepL K M H v d → RepL K M H (v.drop n) (d.drop n)
  | _, _, 0, r => r
  | _, _, _ + 1, .nil => .nil
  | _, _, n + 1, .cons _ t => RepL.drop n t
theorem RepL.set : ∀ {v : List V} {d : List D} {x : V} {y : D} (n : Nat), RepL K M H v d → Rep K M H x y → RepL K M H (v.set n x) (d.set n y)
  | _, _, _, _, _, .nil, _ => .nil
  | _, _, _, _, 0, .cons _ t, r => .cons r t
  | _, _, _, _, n + 1, .cons q t, r => .cons q (RepL.set n t r)
theorem RepL.rev {v : List V} {d : List D} (h : RepL K M H v d) : RepL K M H v.reverse d.reverse := by
  induction v generalizing d with
  | nil => cases h; exact .nil
  | cons x v ih =>
    cases h with
    | cons r t =>
      rw [List.reverse_cons, List.reverse_cons]
      exact (ih t).append (.cons r .nil)
theorem RepL.dropLast {v : List V} {d : List D} (h : RepL K M H v d) : RepL K M H v.dropLast d.dropLast := by
  rw [List.dropLast_eq_take, List.dropLast_eq_take, h.length]
  exact h.take _
theorem RepL.rep {v : List V} {d : List D} (h : RepL K M H v d) : ∀ k : Nat, RepL K M H (List.replicate k v).flatten (List.replicate k d).flatten
  | 0 => .nil
  | k + 1 => by
    rw [List.replicate_succ, List.replicate_succ, List.flatten_cons, List.flatten_cons]
    exact h.append (RepL.rep h k)
theorem RepL.ints : ∀ {v : List V} {ns : List Int}, RepL K M H v (ns.map D.int) → v = ns.map V.int
  | _, [], .nil => rfl
  | _, n :: ns, .cons r t => by
    cases r
    rw [List.map_cons, RepL.ints t]
theorem RepL.of_ints : ∀ (ns : List Int), RepL K M H (ns.map V.int) (ns.map D.int)
  | [] => .nil
  | _ :: ns => .cons (.int _) (RepL.of_ints ns)
end

/-- a thing that may be changed, its parts cold -/
def Own (K : PySem.W.Frag) (M : Addr → Prop) (H : Hp) (p : Addr) : D → Prop
  | .lst ds => ∃ xs, H p = some (.lst xs) ∧ RepL K M H xs ds
  | .dic kds => ∃ kvs, H p = some (.dK kvs) ∧ RepK K M H kvs kds
  | .dit kds => ∃ kvs, H p = some (.dT kvs) ∧ RepT K M H kvs kds
  | _ => False
theorem Own.keep {K : PySem.W.Frag} {M M' : Addr → Prop} {H H' : Hp} {p : Addr} {x : D} (k : Keep M H M' H') (hp : ∀ o, H p = some o → (∀ ps, o ≠ .tbl ps) → H' p = some o) (h : Own K M H p x) : Own K M' H' p x := by
  cases x with
  | lst ds => obtain ⟨xs, e, r⟩ := h; exact ⟨xs, hp _ e (fun _ z => nomatch z), r.keep k⟩
  | dic ds => obtain ⟨xs, e, r⟩ := h; exact ⟨xs, hp _ e (fun _ z => nomatch z), r.keep k⟩
  | dit ds => obtain ⟨xs, e, r⟩ := h; exact ⟨xs, hp _ e (fun _ z => nomatch z), r.keep k⟩
  | _ => exact h.elim
theorem Own.some {K : PySem.W.Frag} {M : Addr → Prop} {H : Hp} {p : Addr} {x : D} (h : Own K M H p x) : H p ≠ none := by
  cases x with
  | lst ds => obtain ⟨xs, e, r⟩ := h; rw [e]; exact fun z => nomatch z
  | dic ds => obtain ⟨xs, e, r⟩ := h; rw [e]; exact fun z => nomatch z
  | dit ds => obtain ⟨xs, e, r⟩ := h; rw [e]; exact fun z => nomatch z
  | _ => exact h.elim
theorem Own.nt {K : PySem.W.Frag} {M : Addr → Prop} {H : Hp} {p : Addr} {x : D} (h : Own K M H p x) : ∀ ps, H p ≠ Option.some (HO.tbl ps) := fun ps z => by
  cases x with
  | lst ds => obtain ⟨xs, e, r⟩ := h; rw [e] at z; cases z
  | dic ds => obtain ⟨xs, e, r⟩ := h; rw [e] at z; cases z
  | dit ds => obtain ⟨xs, e, r⟩ := h; rw [e] at z; cases z
  | _ => exact h.elim
theorem Own.rep {K : PySem.W.Frag} {M : Addr → Prop} {H : Hp} {p : Addr} {x : D} (h : Own K M H p x) (n : ¬ M p) : Rep K M H (.ref p) x := by
  cases x with
  | lst ds => obtain ⟨xs, e, r⟩ := h; exact .lst e n r
  | dic ds => obtain ⟨xs, e, r⟩ := h; exact .dic e n r
  | dit ds => obtain ⟨xs, e, r⟩ := h; exact .dit e n r
  | _ => exact h.elim

/-- a slot: nothing known, a datum, a thing of one's own that may be changed, the caller's thing that may be changed -/
inductive Sl where
  | no | va (d : D) | ow (d : D) | io (d : D)
abbrev Ev := List Sl
/-- what an expression gives: a datum, a new thing of one's own, the thing of a slot -/
inductive RV where
  | d (x : D) | n (x : D) | o (i : Nat)

/-- p may be written: a slot holds it as its own -/
def Wr (σ : L2.St) (ρ : Ev) (p : Addr) : Prop := ∃ (i : Nat) (d : D), (ρ[i]? = some (.ow d) ∨ ρ[i]? = some (.io d)) ∧ σ[i]? = some (some (.ref p))

/-- what a def's body is given: the caller's own thing; the tables of code objects -/
structure Amb where
  io : Option Addr
  tb : Addr → Prop
structure Sim (K : PySem.W.Frag) (p0 : Amb) (M : Addr → Prop) (σ : L2.St) (H : Hp) (ρ : Ev) : Prop where
  len : ρ.length = σ.length
  va : ∀ (i : Nat) (d : D), ρ[i]? = some (.va d) → ∃ v, σ[i]? = some (some v) ∧ Rep K M H v d
  ow : ∀ (i : Nat) (d : D), ρ[i]? = some (.ow d) → ∃ p, σ[i]? = some (some (.ref p)) ∧ M p ∧ Own K M H p d ∧ p0.io ≠ some p
  io : ∀ (i : Nat) (d : D), ρ[i]? = some (.io d) → ∃ p, σ[i]? = some (some (.ref p)) ∧ M p ∧ Own K M H p d ∧ p0.io = some p
  inj : ∀ (i j : Nat) (d e : D) (p : Addr), (ρ[i]? = some (.ow d) ∨ ρ[i]? = some (.io d)) → (ρ[j]? = some (.ow e) ∨ ρ[j]? = some (.io e)) → σ[i]? = some (some (.ref p)) → σ[j]? = some (some (.ref p)) → i = j
  mok : ∀ p, M p → H p ≠ none
  p0k : ∀ q, p0.io = some q → H q ≠ none
  tabs : ∀ q, p0.tb q → GxR.TabG H q
theorem Sim.hot {K : PySem.W.Frag} {p0 : Amb} {M : Addr → Prop} {σ : L2.St} {H : Hp} {ρ : Ev} (S : Sim K p0 M σ H ρ) {p : Addr} (h : Wr σ ρ p) : M p := by
  obtain ⟨i, d, h | h, e⟩ := h
  · obtain ⟨q, e1, m, _⟩ := S.ow i d h
    rw [e] at e1; cases e1; exact m
  · obtain ⟨q, e1, m, _⟩ := S.io i d h
    rw [e] at e1; cases e1; exact m

structure Step (M : Addr → Prop) (Wp : Addr → Prop) (H : Hp) (M' : Addr → Prop) (H' : Hp) : Prop where
  fr : ∀ a o, H a = some o → ¬ Wp a → (∀ ps, o ≠ .tbl ps) → H' a = some o
  sub : ∀ a, M' a → M a ∨ H a = none
  kp : ∀ a, M a → ¬ Wp a → M' a
  dom : ∀ a, H a ≠ none → H' a ≠ none
  tb : ∀ a, GxR.TabG H a → GxR.TabG H' a
theorem tab_upd {H : Hp} {p : Addr} {o : HO} (h : ∀ ps, H p ≠ some (.tbl ps)) : ∀ a, GxR.TabG H a → GxR.TabG (upd H p o) a := fun a ⟨ps, e, t⟩ =>
  ⟨ps, by rw [upd_ne (fun z => h ps (by rw [← z]; exact e))]; exact e, t⟩
theorem Step.refl {M Wp : Addr → Prop} {H : Hp} : Step M Wp H M H := ⟨fun _ _ h _ _ => h, fun _ h => .inl h, fun _ h _ => h, fun _ h => h, fun _ h => h⟩
theorem Step.trans {M M1 M2 W W1 : Addr → Prop} {H H1 H2 : Hp} (a : Step M W H M1 H1) (b : Step M1 W1 H1 M2 H2) (w : ∀ p, W1 p → W p ∨ H p = none) (mok : ∀ p, M p → H p ≠ none) : Step M W H M2 H2 where
  fr := fun p o h n t => b.fr p o (a.fr p o h n t) (fun z => (w p z).elim n fun z => by rw [h] at z; cases z) t
  sub := fun p h => by
    rcases b.sub p h with h | h
    · exact a.sub p h
    · right
      cases q : H p with
      | none => rfl
      | some o => exact absurd h (a.dom p (by rw [q]; exact fun z => nomatch z))
  kp := fun p h n => b.kp p (a.kp p h n) fun z => (w p z).elim n fun z => mok p h z
  dom := fun p h => b.dom p (a.dom p h)
  tb := fun p h => b.tb p (a.tb p h)
theorem Step.keep {M W M' : Addr → Prop} {H H' : Hp} (a : Step M W H M' H') (w : ∀ p, W p → M p) : Keep M H M' H' := fun p o h n t =>
  ⟨a.fr p o h (fun z => n (w p z)) t, fun z => (a.sub p z).elim n fun z => by rw [h] at z; cases z⟩
theorem Step.weak {M W W' M' : Addr → Prop} {H H' : Hp} (a : Step M W H M' H') (w : ∀ p, W p → W' p) : Step M W' H M' H' :=
  ⟨fun p o h n => a.fr p o h fun z => n (w p z), a.sub, fun p h n => a.kp p h fun z => n (w p z), a.dom, a.tb⟩
abbrev Nil : Addr → Prop := fun _ => False

structure Post (K : PySem.W.Frag) (p0 : Amb) (M : Addr → Prop) (σ : L2.St) (H : Hp) (ρ : Ev) (M' : Addr → Prop) (σ' : L2.St) (H' : Hp) (ρ' : Ev) : Prop where
  sim : Sim K p0 M' σ' H' ρ'
  step : Step M (Wr σ ρ) H M' H'
  wr : ∀ p, Wr σ' ρ' p → Wr σ ρ p ∨ H p = none
/-- slots that hold something go on to -/
def Slots (_ _ : Ev) : Prop := True
theorem Slots.refl (ρ : Ev) : Slots ρ ρ := trivial
theorem Slots.trans {ρ ρ1 ρ2 : Ev} (_ : Slots ρ ρ1) (_ : Slots ρ1 ρ2) : Slots ρ ρ2 := trivial
section
variable {K : PySem.W.Frag} {p0 : Amb} {M M1 M2 : Addr → Prop} {σ σ1 σ2 : L2.St} {H H1 H2 : Hp} {ρ ρ1 ρ2 : Ev}
theorem Post.refl (S : Sim K p0 M σ H ρ) : Post K p0 M σ H ρ M σ H ρ := ⟨S, Step.refl, fun _ h => .inl h⟩
theorem Post.trans (S : Sim K p0 M σ H ρ) (a : Post K p0 M σ H ρ M1 σ1 H1 ρ1) (b : Post K p0 M1 σ1 H1 ρ1 M2 σ2 H2 ρ2) : Post K p0 M σ H ρ M2 σ2 H2 ρ2 :=
  ⟨b.sim, a.step.trans b.step a.wr S.mok, fun p h => by
    rcases b.wr p h with h | h
    · exact a.wr p h
    · right
      cases q : H p with
      | none => rfl
      | some o => exact absurd h (a.step.dom p (by rw [q]; exact fun z => nomatch z))⟩
theorem Post.keep (S : Sim K p0 M σ H ρ) (a : Post K p0 M σ H ρ M1 σ1 H1 ρ1) : Keep M H M1 H1 := a.step.keep fun _ h => S.hot h
theorem dom_back {H H1 : Hp} (d : ∀ a, H a ≠ none → H1 a ≠ none) {p : Addr} (h : H1 p = none) : H p = none := by
  cases q : H p with
  | none => rfl
  | some o => exact absurd h (d p (by rw [q]; exact fun z => nomatch z))
/-- the state goes on where only new things have come -/
theorem Sim.more (S : Sim K p0 M σ H ρ) (a : Step M Nil H M1 H1) (mok : ∀ p, M1 p → H1 p ≠ none) : Sim K p0 M1 σ H1 ρ := by
  have k : Keep M H M1 H1 := a.keep fun _ z => z.elim
  refine ⟨S.len, fun i d h => ?_, fun i d h => ?_, fun i d h => ?_, S.inj, mok, fun q e => a.dom q (S.p0k q e), fun q e => a.tb q (S.tabs q e)⟩
  · obtain ⟨v, e, r⟩ := S.va i d h
    exact ⟨v, e, r.keep k⟩
  · obtain ⟨p, e, m, o, n⟩ := S.ow i d h
    exact ⟨p, e, a.kp p m fun z => z, o.keep k fun u z t => a.fr p u z (fun z => z) t, n⟩
  · obtain ⟨p, e, m, o, n⟩ := S.io i d h
    exact ⟨p, e, a.kp p m fun z => z, o.keep k fun u z t => a.fr p u z (fun z => z) t, n⟩
theorem Sim.post (S : Sim K p0 M σ H ρ) (a : Step M Nil H M1 H1) (mok : ∀ p, M1 p → H1 p ≠ none) : Post K p0 M σ H ρ M1 σ H1 ρ :=
  ⟨S.more a mok, a.weak fun _ z => z.elim, fun _ h => .inl h⟩
end

/-- a result and the value that bears it; H0: the heap ahead of the expression -/
def RVok (K : PySem.W.Frag) (M : Addr → Prop) (σ : L2.St) (ρ : Ev) (H0 H : Hp) (v : V) : RV → Prop
  | .d x => Rep K M H v x
  | .n x => ∃ p, v = .ref p ∧ M p ∧ ¬ Wr σ ρ p ∧ H0 p = none ∧ Own K M H p x
  | .o i => σ[i]? = some (some v) ∧ True
section
variable {K : PySem.W.Frag} {p0 : Amb} {M M1 : Addr → Prop} {σ : L2.St} {H0 H H1 : Hp} {ρ ρ1 : Ev} {v : V} {r : RV}
theorem RVok.post (S : Sim K p0 M σ H ρ) (a : Post K p0 M σ H ρ M1 σ H1 ρ1) (s : Slots ρ ρ1) (h : RVok K M σ ρ H0 H v r) : RVok K M1 σ ρ1 H0 H1 v r := by
  cases r with
  | d x => exact Rep.keep (a.keep S) h
  | n x =>
    obtain ⟨p, rfl, m, nw, f, o⟩ := h
    have hp := o.some
    refine ⟨p, rfl, a.step.kp p m nw, fun z => (a.wr p z).elim nw hp, f, o.keep (a.keep S) fun u e t => a.step.fr p u e nw t⟩
  | o i =>
    exact h
theorem RVok.back {H00 : Hp} (d : ∀ a, H00 a ≠ none → H0 a ≠ none) (h : RVok K M σ ρ H0 H v r) : RVok K M σ ρ H00 H v r := by
  cases r with
  | d x => exact h
  | n x =>
    obtain ⟨p, rfl, m, nw, f, o⟩ := h
    exact ⟨p, rfl, m, nw, dom_back d f, o⟩
  | o i => exact h
end

/-- the datum of a result -/
def rdS : Option Sl → Option D
  | some (.va x) => some x
  | some (.ow x) => some x
  | some (.io x) => some x
  | _ => none
def rd (ρ : Ev) : RV → Option D
  | .d x => some x
  | .n x => some x
  | .o i => rdS ρ[i]?
/-- v bears x, its parts cold (v itself may be hot) -/
def RepC (K : PySem.W.Frag) (M : Addr → Prop) (H : Hp) (v : V) (x : D) : Prop := Rep K M H v x ∨ ∃ p, v = .ref p ∧ Own K M H p x
theorem rd_ok {K : PySem.W.Frag} {p0 : Amb} {M : Addr → Prop} {σ : L2.St} {H0 H : Hp} {ρ : Ev} {v : V} {r : RV} {x : D} (S : Sim K p0 M σ H ρ) (h : RVok K M σ ρ H0 H v r) (e : rd ρ r = some x) : RepC K M H v x := by
  cases r with
  | d y => cases e; exact .inl h
  | n y =>
    cases e
    obtain ⟨p, rfl, _, _, _, o⟩ := h
    exact .inr ⟨p, rfl, o⟩
  | o i =>
    obtain ⟨e1, _⟩ := h
    have e : rdS ρ[i]? = some x := e
    cases hy : ρ[i]? with
    | none => rw [hy] at e; cases e
    | some s =>
      rw [hy] at e
      cases s with
      | no => cases e
      | va y =>
        cases e
        obtain ⟨v', e2, r⟩ := S.va i _ hy
        rw [e1] at e2; cases e2
        exact .inl r
      | ow y =>
        cases e
        obtain ⟨p, e2, _, o, _⟩ := S.ow i _ hy
        rw [e1] at e2; cases e2
        exact .inr ⟨p, rfl, o⟩
      | io y =>
        cases e
        obtain ⟨p, e2, _, o, _⟩ := S.io i _ hy
        rw [e1] at e2; cases e2
        exact .inr ⟨p, rfl, o⟩

/-! ### readings over plain data -/
abbrev EK := RV → Ev → Prop
abbrev XQ := Addr → Ev → Prop
abbrev ET := Ev → EK → XQ → Prop

/-- an expression's reading over data, as a reading of the layer below; W: what is wanted of an exception -/
def lift (K : PySem.W.Frag) (p0 : Amb) (W : WX) (t : ET) : TE := fun σ H Q => ∃ (M : Addr → Prop) (ρ : Ev) (q : EK) (x : XQ), Sim K p0 M σ H ρ ∧ t ρ q x ∧
  (∀ v M' H' ρ' r, Post K p0 M σ H ρ M' σ H' ρ' → Slots ρ ρ' → RVok K M' σ ρ' H H' v r → q r ρ' → Q v H') ∧
  (∀ c M' H' ρ', Post K p0 M σ H ρ M' σ H' ρ' → x c ρ' → W (.ref c) none σ H')
/-- a test's -/
abbrev BT := Ev → (Bool → Ev → Prop) → XQ → Prop
def liftB (K : PySem.W.Frag) (p0 : Amb) (W : WX) (t : BT) : TT := fun σ H Q => ∃ (M : Addr → Prop) (ρ : Ev) (q : Bool → Ev → Prop) (x : XQ), Sim K p0 M σ H ρ ∧ t ρ q x ∧
  (∀ b M' H' ρ', Post K p0 M σ H ρ M' σ H' ρ' → Slots ρ ρ' → q b ρ' → Q b H') ∧
  (∀ c M' H' ρ', Post K p0 M σ H ρ M' σ H' ρ' → x c ρ' → W (.ref c) none σ H')
/-- the results of an argument list: new things lie apart -/
inductive RVsOk (K : PySem.W.Frag) (M : Addr → Prop) (σ : L2.St) (ρ : Ev) (H0 H : Hp) : List V → List RV → Prop
  | nil : RVsOk K M σ ρ H0 H [] []
  | cons {v : V} {vs : List V} {r : RV} {rs : List RV} : RVok K M σ ρ H0 H v r → (∀ y, r ≠ .n y) → RVsOk K M σ ρ H0 H vs rs → RVsOk K M σ ρ H0 H (v :: vs) (r :: rs)
abbrev AT := Ev → (List RV → Ev → Prop) → XQ → Prop
def liftA (K : PySem.W.Frag) (p0 : Amb) (W : WX) (t : AT) : TA := fun σ H Q => ∃ (M : Addr → Prop) (ρ : Ev) (q : List RV → Ev → Prop) (x : XQ), Sim K p0 M σ H ρ ∧ t ρ q x ∧
  (∀ vs M' H' ρ' rs, Post K p0 M σ H ρ M' σ H' ρ' → Slots ρ ρ' → RVsOk K M' σ ρ' H H' vs rs → q rs ρ' → Q vs H') ∧
  (∀ c M' H' ρ', Post K p0 M σ H ρ M' σ H' ρ' → x c ρ' → W (.ref c) none σ H')

structure DE (X : Cx) (p0 : Amb) (W : WX) (e : Expr) (t : ET) : Prop where
  pe : PE X e (lift X.K p0 W t)
structure DB (X : Cx) (p0 : Amb) (W : WX) (e : Expr) (t : BT) : Prop where
  pt : PT X e (liftB X.K p0 W t)
structure DA (X : Cx) (p0 : Amb) (W : WX) (es : List Expr) (t : AT) : Prop where
  pa : PA X es (liftA X.K p0 W t)
theorem PE.imp {X : Cx} {e : Expr} {t u : TE} (h : PE X e t) (i : ∀ σ H Q, u σ H Q → t σ H Q) : PE X e u := ⟨fun pins s σ H Q I hu => h.run pins s σ H Q I (i σ H Q hu)⟩
theorem PT.imp {X : Cx} {e : Expr} {t u : TT} (h : PT X e t) (i : ∀ σ H Q, u σ H Q → t σ H Q) : PT X e u := ⟨fun pins s σ H Q I hu => h.run pins s σ H Q I (i σ H Q hu)⟩
theorem PA.imp {X : Cx} {e : List Expr} {t u : TA} (h : PA X e t) (i : ∀ σ H Q, u σ H Q → t σ H Q) : PA X e u := ⟨fun pos pins s σ H Q I hu => h.run pos pins s σ H Q I (i σ H Q hu)⟩
theorem PS.imp {X : Cx} {e : Stmt} {t u : TS} (h : PS X e t) (i : ∀ D σ H, u D σ H → t D σ H) : PS X e u := ⟨fun pins s σ H Q I hu => h.run pins s σ H Q I (i Q σ H hu)⟩
theorem PSs.imp {X : Cx} {e : List Stmt} {t u : TS} (h : PSs X e t) (i : ∀ D σ H, u D σ H → t D σ H) : PSs X e u := ⟨fun pins s σ H Q I hu => h.run pins s σ H Q I (i Q σ H hu)⟩

end DL

set_option Elab.async false
set_option linter.all false
set_option maxRecDepth 100000
set_option maxHeartbeats 4000000
namespace DL
open PySem PySem.Spec PyProof.Rows L2

/-- what an operation on values has given -/
structure ResOk (K : PySem.W.Frag) (M : Addr → Prop) (H : Hp) (M' : Addr → Prop) (H' : Hp) (v : V) (r : RV) : Prop where
  step : Step M Nil H M' H'
  mok : ∀ p, M' p → H' p ≠ none
  res : match r with
    | .d x => Rep K M' H' v x
    | .n x => ∃ p, v = .ref p ∧ H p = none ∧ M' p ∧ Own K M' H' p x
    | .o _ => False
section
variable {K : PySem.W.Frag} {p0 : Amb} {M0 M M1 : Addr → Prop} {σ : L2.St} {H0 H H1 : Hp} {ρ0 ρ : Ev} {v : V} {r : RV}
theorem ResOk.same (mok : ∀ p, M p → H p ≠ none) {x : D} (h : Rep K M H v x) : ResOk K M H M H v (.d x) := ⟨Step.refl, mok, h⟩
theorem ResOk.fin (S0 : Sim K p0 M0 σ H0 ρ0) (a : Post K p0 M0 σ H0 ρ0 M σ H ρ) (h : ResOk K M H M1 H1 v r) : Post K p0 M0 σ H0 ρ0 M1 σ H1 ρ ∧ RVok K M1 σ ρ H0 H1 v r := by
  have b := a.sim.post h.step h.mok
  refine ⟨a.trans S0 b, ?_⟩
  cases r with
  | d x => exact h.res
  | n x =>
    obtain ⟨p, e, f, m, o⟩ := h.res
    refine ⟨p, e, m, fun z => ?_, dom_back a.step.dom f, o⟩
    exact a.sim.mok p (a.sim.hot z) f
  | o i => exact h.res.elim
theorem rep_new (mok : ∀ p, M p → H p ≠ none) {p : Addr} {o : HO} (hp : H p = none) : Step M Nil H M (upd H p o) ∧ (∀ q, M q → upd H p o q ≠ none) ∧ ¬ M p := by
  refine ⟨⟨fun a u h _ _ => by rw [upd_ne (ne_of_none h hp)]; exact h, fun a h => .inl h, fun a h _ => h, fun a h => ?_, tab_upd fun ps z => by rw [hp] at z; cases z⟩, fun q h => ?_, fun h => mok p h hp⟩
  · by_cases e : a = p
    · rw [e, upd_same]; exact fun z => nomatch z
    · rw [upd_ne e]; exact h
  · by_cases e : q = p
    · rw [e, upd_same]; exact fun z => nomatch z
    · rw [upd_ne e]; exact mok q h
/-- a new tuple -/
theorem ResOk.tup (mok : ∀ p, M p → H p ≠ none) {p : Addr} {xs : List V} {ds : List D} (hp : H p = none) (r : RepL K M H xs ds) : ResOk K M H M (upd H p (.tup xs)) (.ref p) (.d (.tup ds)) := by
  obtain ⟨s, m, n⟩ := rep_new (o := .tup xs) mok hp
  exact ⟨s, m, .tup (.inl ⟨.inl upd_same, n⟩) (r.keep (s.keep fun _ z => z.elim))⟩
/-- a new list of one's own -/
theorem ResOk.lst (mok : ∀ p, M p → H p ≠ none) {p : Addr} {xs : List V} {ds : List D} (hp : H p = none) (r : RepL K M H xs ds) : ResOk K M H (fun a => M a ∨ a = p) (upd H p (.lst xs)) (.ref p) (.n (.lst ds)) := by
  obtain ⟨s, m, n⟩ := rep_new (o := .lst xs) mok hp
  have s' : Step M Nil H (fun a => M a ∨ a = p) (upd H p (.lst xs)) := ⟨s.fr, fun a h => h.elim .inl fun e => .inr (e ▸ hp), fun a h _ => .inl h, s.dom, s.tb⟩
  refine ⟨s', fun q h => ?_, ⟨p, rfl, hp, .inr rfl, xs, upd_same, r.keep (s'.keep fun _ z => z.elim)⟩⟩
  rcases h with h | h
  · exact m q h
  · rw [h, upd_same]; exact fun z => nomatch z
theorem ResOk.dic (mok : ∀ p, M p → H p ≠ none) {p : Addr} {xs : List (Key × V)} {ds : List (Key × D)} (hp : H p = none) (r : RepK K M H xs ds) : ResOk K M H (fun a => M a ∨ a = p) (upd H p (.dK xs)) (.ref p) (.n (.dic ds)) := by
  obtain ⟨s, m, n⟩ := rep_new (o := .dK xs) mok hp
  have s' : Step M Nil H (fun a => M a ∨ a = p) (upd H p (.dK xs)) := ⟨s.fr, fun a h => h.elim .inl fun e => .inr (e ▸ hp), fun a h _ => .inl h, s.dom, s.tb⟩
  refine ⟨s', fun q h => ?_, ⟨p, rfl, hp, .inr rfl, xs, upd_same, r.keep (s'.keep fun _ z => z.elim)⟩⟩
  rcases h with h | h
  · exact m q h
  · rw [h, upd_same]; exact fun z => nomatch z
end

theorem RVok.dd {K : PySem.W.Frag} {M : Addr → Prop} {σ : L2.St} {ρ : Ev} {H0 H : Hp} {v : V} {x : D} (h : Rep K M H v x) : RVok K M σ ρ H0 H v (.d x) := h
/-! ### names, constants -/
def tK (x : D) : ET := fun ρ q _ => q (.d x) ρ
theorem de_k {X : Cx} {p : Amb} {W : WX} {e : Expr} {v : V} {x : D} (h : PE X e (tC v)) (r : ∀ M H, Rep X.K M H v x) : DE X p W e (tK x) := ⟨PE.imp h fun σ H Q ⟨M, ρ, q, xq, S, ht, hq, _⟩ =>
  hq v M H ρ _ (Post.refl S) (Slots.refl ρ) (RVok.dd (r M H)) ht⟩
section
variable {X : Cx} {p : Amb} {W : WX} {pos : Pos} {j : Nat}
theorem de_int {i : Int} : DE X p W (.Constant (.int i) j pos) (tK (.int i)) := de_k pe_int fun _ _ => .int i
theorem de_bl {b : Bool} : DE X p W (.Constant (.bool b) j pos) (tK (.bl b)) := de_k pe_bl fun _ _ => .bl b
theorem de_non : DE X p W (.Constant .none j pos) (tK .non) := de_k pe_non fun _ _ => .non
theorem de_str {x : Str} : DE X p W (.Constant (.str x) j pos) (tK (.str x)) := de_k pe_str fun _ _ => .str x
theorem de_gint {x : Str} {i : Int} {t : Tok} (hg : Gl X x) (hm : X.mg x = some (.int i t)) (hd : (x == ("__debug__" : Str)) = false := by decide) : DE X p W (.Name x pos) (tK (.int i)) := de_k (pe_glob hg hm (v := .int i) ⟨t, rfl⟩ hd) fun _ _ => .int i
end
def slR (i : Nat) : Option Sl → Option RV
  | some (.va x) => some (.d x)
  | some (.ow _) => some (.o i)
  | some (.io _) => some (.o i)
  | _ => none
/-- a predicate of a result that may lack -/
def some! {α : Type} (o : Option α) (q : α → Prop) : Prop := match o with
  | some a => q a
  | none => False
theorem some!_ok {α : Type} {o : Option α} {q : α → Prop} (h : some! o q) : ∃ a, o = some a ∧ q a := by
  cases o with
  | none => exact h.elim
  | some a => exact ⟨a, rfl, h⟩
def tV (i : Nat) : ET := fun ρ q _ => some! (slR i ρ[i]?) fun r => q r ρ
theorem var_ok {K : PySem.W.Frag} {p0 : Amb} {M : Addr → Prop} {σ : L2.St} {H : Hp} {ρ : Ev} {i : Nat} {r : RV} (S : Sim K p0 M σ H ρ) (h : slR i ρ[i]? = some r) : ∃ v, σ[i]? = some (some v) ∧ RVok K M σ ρ H H v r := by
  cases e : ρ[i]? with
  | none => rw [e] at h; cases h
  | some s =>
    rw [e] at h
    cases s with
    | no => cases h
    | va x =>
      cases h
      obtain ⟨v, e2, r⟩ := S.va i x e
      exact ⟨v, e2, r⟩
    | ow x =>
      cases h
      obtain ⟨q, e2, _⟩ := S.ow i x e
      exact ⟨_, e2, e2, trivial⟩
    | io x =>
      cases h
      obtain ⟨q, e2, _⟩ := S.io i x e
      exact ⟨_, e2, e2, trivial⟩
theorem de_v (i : Nat) {X : Cx} {p : Amb} {W : WX} {x : Str} {pos : Pos} (hN : X.N[i]? = some x := by rfl) (hv : Vis X.env.scope x := by first | exact Or.inl rfl | exact Or.inr (Or.inl rfl) | exact Or.inr (Or.inr rfl)) (hd : (x == ("__debug__" : Str)) = false := by decide)
    (hcd : (x == ("__classdict__" : Str)) = false := by decide) : DE X p W (.Name x pos) (tV i) := ⟨PE.imp (pe_var hN hv hd hcd) fun σ H Q ⟨M, ρ, q, xq, S, ht, hq, _⟩ => by
  obtain ⟨r, e, h⟩ := some!_ok ht
  obtain ⟨v, e2, ok⟩ := var_ok S e
  exact ⟨v, e2, hq v M H ρ r (Post.refl S) (Slots.refl ρ) ok h⟩⟩

/-! ### operations -/
def f2 (f : D → D → (RV → Prop) → Prop) (a b : Option D) (q : RV → Prop) : Prop := match a, b with
  | some x, some y => f x y q
  | _, _ => False
theorem f2_ok {f : D → D → (RV → Prop) → Prop} {a b : Option D} {q : RV → Prop} (h : f2 f a b q) : ∃ x y, a = some x ∧ b = some y ∧ f x y q := by
  cases a with
  | none => exact h.elim
  | some x =>
    cases b with
    | none => exact h.elim
    | some y => exact ⟨x, y, rfl, rfl, h⟩
/-- the operation r on values does on data what f says -/
def R2D (K : PySem.W.Frag) (r : R2) (f : D → D → (RV → Prop) → Prop) : Prop := ∀ (M : Addr → Prop) (H : Hp) (x y : V) (a b : D) (Q : VK) (q : RV → Prop), (∀ p, M p → H p ≠ none) → RepC K M H x a → RepC K M H y b → f a b q →
  (∀ v M' H' z, ResOk K M H M' H' v z → q z → Q v H') → r x y H Q
/-- one behind the other, then the operation -/
def t2 (f : D → D → (RV → Prop) → Prop) (ta tb : ET) : ET := fun ρ q x => ta ρ (fun r ρ1 => tb ρ1 (fun s ρ2 => f2 f (rd ρ2 r) (rd ρ2 s) fun z => q z ρ2) x) x
section
variable {X : Cx} {p : Amb} {W : WX} {a b c : Expr} {ta tb tc : ET} {pos : Pos}
theorem t2_ok {r : R2} {f : D → D → (RV → Prop) → Prop} (hr : R2D X.K r f) {σ : L2.St} {H : Hp} {Q : VK} (h : lift X.K p W (t2 f ta tb) σ H Q) : tOp r (lift X.K p W ta) (lift X.K p W tb) σ H Q := by
  obtain ⟨M, ρ, q, xq, S, ht, hq, hx⟩ := h
  refine ⟨M, ρ, _, _, S, ht, fun v M1 H1 ρ1 r1 P1 S1 R1 h1 => ?_, hx⟩
  refine ⟨M1, ρ1, _, _, P1.sim, h1, fun u M2 H2 ρ2 r2 P2 S2 R2 h2 => ?_, fun c M2 H2 ρ2 P2 h2 => hx c M2 H2 ρ2 (P1.trans S P2) h2⟩
  obtain ⟨x, y, e1, e2, h3⟩ := f2_ok h2
  have c1 := rd_ok P2.sim (R1.post P1.sim P2 S2) e1
  have c2 := rd_ok P2.sim R2 e2
  refine hr M2 H2 v u x y Q _ P2.sim.mok c1 c2 h3 fun w M3 H3 z ok hz => ?_
  obtain ⟨P3, R3⟩ := ok.fin S (P1.trans S P2)
  exact hq w M3 H3 ρ2 z P3 (S1.trans S2) R3 hz
theorem de_op {op : Operator} {r : R2} {f : D → D → (RV → Prop) → Prop} (ho : OpR X (binaryOp op) r) (hr : R2D X.K r f) (ha : DE X p W a ta) (hb : DE X p W b tb) : DE X p W (.BinOp a op b pos) (t2 f ta tb) :=
  ⟨PE.imp (pe_op ho ha.pe hb.pe) fun _ _ _ h => t2_ok hr h⟩
theorem de_cmp {op : CmpOp} {r : R2} {f : D → D → (RV → Prop) → Prop} (ho : OpR X (compareOp op) r) (hr : R2D X.K r f) (ha : DE X p W a ta) (hb : DE X p W b tb) (hm : behindInMarks op b = false) : DE X p W (.Compare a [op] [b] pos) (t2 f ta tb) :=
  ⟨PE.imp (pe_cmpR ho ha.pe hb.pe hm) fun _ _ _ h => t2_ok hr h⟩
/-- the truth value of a result -/
def blR : RV → Option Bool
  | .d (.bl b) => some b
  | _ => none
theorem blR_ok {K : PySem.W.Frag} {M : Addr → Prop} {σ : L2.St} {ρ : Ev} {H0 H : Hp} {v : V} {r : RV} {b : Bool} (h : blR r = some b) (R : RVok K M σ ρ H0 H v r) : v = .bl b := by
  cases r with
  | d x =>
    cases x with
    | bl c =>
      cases h
      cases R with
      | bl _ => rfl
    | _ => cases h
  | _ => cases h
def tT (t : ET) : BT := fun ρ q x => t ρ (fun r ρ1 => some! (blR r) fun b => q b ρ1) x
theorem tT_ok {t : ET} {σ : L2.St} {H : Hp} {Q : Bool → Hp → Prop} (h : liftB X.K p W (tT t) σ H Q) : lift X.K p W t σ H fun v H1 => ∃ b, v = .bl b ∧ Q b H1 := by
  obtain ⟨M, ρ, q, xq, S, ht, hq, hx⟩ := h
  refine ⟨M, ρ, _, _, S, ht, fun v M1 H1 ρ1 r1 P1 S1 R1 h1 => ?_, hx⟩
  obtain ⟨b, e, h2⟩ := some!_ok h1
  exact ⟨b, blR_ok e R1, hq b M1 H1 ρ1 P1 S1 h2⟩
/-- a comparison as a test -/
theorem db_cmp {op : CmpOp} {r : R2} {f : D → D → (RV → Prop) → Prop} (ho : OpR X (compareOp op) r) (hr : R2D X.K r f) (ha : DE X p W a ta) (hb : DE X p W b tb) (hm : behindInMarks op b = false) : DB X p W (.Compare a [op] [b] pos) (tT (t2 f ta tb)) :=
  ⟨PT.imp (pt_cmpR ho ha.pe hb.pe hm) fun σ H Q h => by
    have h1 := tT_ok h
    exact t2_ok hr h1⟩
/-- an expression whose value is a truth value, as a test -/
theorem db_val {t : ET} (h : DE X p W a t) (he : ∀ whole, isTrue a X.env whole = (do let v ← whole; standAt a.pos; holding [v] (truthy v)) := by intro _; rfl) : DB X p W a (tT t) :=
  ⟨PT.imp (pt_val h.pe he) fun σ H Q h => tT_ok h⟩
/-- a chain a < b < c -/
def tCh (f g : D → D → (RV → Prop) → Prop) (ta tb tc : ET) : ET := fun ρ q x => ta ρ (fun r ρ1 => tb ρ1 (fun s ρ2 => f2 f (rd ρ2 r) (rd ρ2 s) fun z => some! (blR z) fun k =>
  if k = true then tc ρ2 (fun u ρ3 => f2 g (rd ρ3 s) (rd ρ3 u) fun z2 => q z2 ρ3) x else q (.d (.bl false)) ρ2) x) x
theorem tCh_ok {r r' : R2} {f g : D → D → (RV → Prop) → Prop} (hr : R2D X.K r f) (hr' : R2D X.K r' g) {σ : L2.St} {H : Hp} {Q : VK} (h : lift X.K p W (tCh f g ta tb tc) σ H Q) : tChain r r' (lift X.K p W ta) (lift X.K p W tb) (lift X.K p W tc) σ H Q := by
  obtain ⟨M, ρ, q, xq, S, ht, hq, hx⟩ := h
  refine ⟨M, ρ, _, _, S, ht, fun v M1 H1 ρ1 r1 P1 S1 R1 h1 => ?_, hx⟩
  refine ⟨M1, ρ1, _, _, P1.sim, h1, fun u M2 H2 ρ2 r2 P2 S2 R2 h2 => ?_, fun c M2 H2 ρ2 P2 h2 => hx c M2 H2 ρ2 (P1.trans S P2) h2⟩
  obtain ⟨x, y, e1, e2, h3⟩ := f2_ok h2
  have c1 := rd_ok P2.sim (R1.post P1.sim P2 S2) e1
  have c2 := rd_ok P2.sim R2 e2
  refine hr M2 H2 v u x y _ _ P2.sim.mok c1 c2 h3 fun w M3 H3 z ok hz => ?_
  obtain ⟨k, e3, h4⟩ := some!_ok hz
  obtain ⟨P3, R3⟩ := ok.fin S (P1.trans S P2)
  refine ⟨k, blR_ok e3 R3, ?_⟩
  have Q3 := P2.sim.post ok.step ok.mok
  cases k with
  | false =>
    rw [if_neg Bool.false_ne_true] at h4 ⊢
    exact hq _ M3 H3 ρ2 _ P3 (S1.trans S2) (RVok.dd (.bl false)) h4
  | true =>
    rw [if_pos rfl] at h4 ⊢
    refine ⟨M3, ρ2, _, _, P3.sim, h4, fun w2 M4 H4 ρ4 r4 P4 S4 R4 h5 => ?_, fun c M4 H4 ρ4 P4 h5 => hx c M4 H4 ρ4 (P3.trans S P4) h5⟩
    obtain ⟨x2, y2, e4, e5, h6⟩ := f2_ok h5
    have d1 := rd_ok P4.sim ((R2.post P2.sim Q3 (Slots.refl _)).post P3.sim P4 S4) e4
    have d2 := rd_ok P4.sim R4 e5
    refine hr' M4 H4 u w2 x2 y2 _ _ P4.sim.mok d1 d2 h6 fun w5 M5 H5 z5 ok5 hz5 => ?_
    obtain ⟨P5, R5⟩ := ok5.fin S (P3.trans S P4)
    exact hq w5 M5 H5 ρ4 z5 P5 ((S1.trans S2).trans S4) R5 hz5
theorem de_chain {op op' : CmpOp} {r r' : R2} {f g : D → D → (RV → Prop) → Prop} (ho : OpR X (compareOp op) r) (hr : R2D X.K r f) (ho' : OpR X (compareOp op') r') (hr' : R2D X.K r' g) (ha : DE X p W a ta) (hb : DE X p W b tb) (hc : DE X p W c tc)
    (hm : lastMarks [op, op'] [b, c] = false := by with_unfolding_all rfl) : DE X p W (.Compare a [op, op'] [b, c] pos) (tCh f g ta tb tc) :=
  ⟨PE.imp (pe_chain ho ho' ha.pe hb.pe hc.pe hm) fun _ _ _ h => tCh_ok hr hr' h⟩
theorem db_chain {op op' : CmpOp} {r r' : R2} {f g : D → D → (RV → Prop) → Prop} (ho : OpR X (compareOp op) r) (hr : R2D X.K r f) (ho' : OpR X (compareOp op') r') (hr' : R2D X.K r' g) (ha : DE X p W a ta) (hb : DE X p W b tb) (hc : DE X p W c tc)
    (hm : lastMarks [op, op'] [b, c] = false := by with_unfolding_all rfl) : DB X p W (.Compare a [op, op'] [b, c] pos) (tT (tCh f g ta tb tc)) :=
  ⟨PT.imp (pt_chain ho ho' ha.pe hb.pe hc.pe hm) fun _ _ _ h => tCh_ok hr hr' (tT_ok h)⟩

/-! ### and, or, not, if -/
variable {ua ub : BT} {rest : List Expr}
def bAnd (ta tb : BT) : BT := fun ρ q x => ta ρ (fun k ρ1 => if k = true then tb ρ1 q x else q false ρ1) x
def bOr (ta tb : BT) : BT := fun ρ q x => ta ρ (fun k ρ1 => if k = true then q true ρ1 else tb ρ1 q x) x
def bNot (ta : BT) : BT := fun ρ q x => ta ρ (fun k ρ1 => q (!k) ρ1) x
theorem bnext {σ : L2.St} {H : Hp} {Q : Bool → Hp → Prop} {M : Addr → Prop} {ρ : Ev} {q : Bool → Ev → Prop} {x : XQ} (S : Sim X.K p M σ H ρ)
    (hq : ∀ b M' H' ρ', Post X.K p M σ H ρ M' σ H' ρ' → Slots ρ ρ' → q b ρ' → Q b H') (hx : ∀ c M' H' ρ', Post X.K p M σ H ρ M' σ H' ρ' → x c ρ' → W (.ref c) none σ H')
    {M1 : Addr → Prop} {H1 : Hp} {ρ1 : Ev} (P1 : Post X.K p M σ H ρ M1 σ H1 ρ1) (S1 : Slots ρ ρ1) {t : BT} (h : t ρ1 q x) : liftB X.K p W t σ H1 Q :=
  ⟨M1, ρ1, q, x, P1.sim, h, fun b M2 H2 ρ2 P2 S2 h2 => hq b M2 H2 ρ2 (P1.trans S P2) (S1.trans S2) h2, fun c M2 H2 ρ2 P2 h2 => hx c M2 H2 ρ2 (P1.trans S P2) h2⟩
theorem db_and1 (ha : DB X p W a ua) : DB X p W (.BoolOp .And [a] pos) ua := ⟨(pw_and1 ha.pt).pt⟩
theorem db_or1 (ha : DB X p W a ua) : DB X p W (.BoolOp .Or [a] pos) ua := ⟨(pw_or1 ha.pt).pt⟩
structure DW (X : Cx) (p0 : Amb) (W : WX) (e : Expr) (t : BT) : Prop where
  pw : PW X e (liftB X.K p0 W t)
theorem PW.imp {X : Cx} {e : Expr} {t u : TT} (h : PW X e t) (i : ∀ σ H Q, u σ H Q → t σ H Q) : PW X e u := ⟨fun wh pins s σ H Q I hu => h.run wh pins s σ H Q I (i σ H Q hu)⟩
theorem DW.toB {e : Expr} (h : DW X p W e ua) : DB X p W e ua := ⟨h.pw.pt⟩
theorem dw_and1 (ha : DB X p W a ua) : DW X p W (.BoolOp .And [a] pos) ua := ⟨pw_and1 ha.pt⟩
theorem dw_or1 (ha : DB X p W a ua) : DW X p W (.BoolOp .Or [a] pos) ua := ⟨pw_or1 ha.pt⟩
theorem dw_and (ha : DB X p W a ua) (hb : DW X p W (.BoolOp .And (b :: rest) pos) ub) : DW X p W (.BoolOp .And (a :: b :: rest) pos) (bAnd ua ub) :=
  ⟨PW.imp (pw_and ha.pt hb.pw) fun σ H Q ⟨M, ρ, q, xq, S, ht, hq, hx⟩ => by
    refine ⟨M, ρ, _, _, S, ht, fun k M1 H1 ρ1 P1 S1 h1 => ?_, hx⟩
    cases k with
    | true =>
      rw [if_pos rfl] at h1 ⊢
      exact bnext S hq hx P1 S1 h1
    | false =>
      rw [if_neg Bool.false_ne_true] at h1 ⊢
      exact hq false M1 H1 ρ1 P1 S1 h1⟩
theorem dw_or (ha : DB X p W a ua) (hb : DW X p W (.BoolOp .Or (b :: rest) pos) ub) : DW X p W (.BoolOp .Or (a :: b :: rest) pos) (bOr ua ub) :=
  ⟨PW.imp (pw_or ha.pt hb.pw) fun σ H Q ⟨M, ρ, q, xq, S, ht, hq, hx⟩ => by
    refine ⟨M, ρ, _, _, S, ht, fun k M1 H1 ρ1 P1 S1 h1 => ?_, hx⟩
    cases k with
    | true =>
      rw [if_pos rfl] at h1 ⊢
      exact hq true M1 H1 ρ1 P1 S1 h1
    | false =>
      rw [if_neg Bool.false_ne_true] at h1 ⊢
      exact bnext S hq hx P1 S1 h1⟩
theorem db_not (ha : DB X p W a ua) : DB X p W (.UnaryOp .Not a pos) (bNot ua) :=
  ⟨PT.imp (pt_not ha.pt) fun σ H Q ⟨M, ρ, q, xq, S, ht, hq, hx⟩ => ⟨M, ρ, _, _, S, ht, fun k M1 H1 ρ1 P1 S1 h1 => hq (!k) M1 H1 ρ1 P1 S1 h1, hx⟩⟩
/-- .. as values: all parts truth values -/
def tAnd' (ta tb : ET) : ET := fun ρ q x => ta ρ (fun r ρ1 => some! (blR r) fun k => if k = true then tb ρ1 q x else q (.d (.bl false)) ρ1) x
def tOr' (ta tb : ET) : ET := fun ρ q x => ta ρ (fun r ρ1 => some! (blR r) fun k => if k = true then q (.d (.bl true)) ρ1 else tb ρ1 q x) x
def tNot' (ta : ET) : ET := fun ρ q x => ta ρ (fun r ρ1 => some! (blR r) fun k => q (.d (.bl (!k))) ρ1) x
theorem enext {σ : L2.St} {H : Hp} {Q : VK} {M : Addr → Prop} {ρ : Ev} {q : EK} {x : XQ} (S : Sim X.K p M σ H ρ)
    (hq : ∀ v M' H' ρ' r, Post X.K p M σ H ρ M' σ H' ρ' → Slots ρ ρ' → RVok X.K M' σ ρ' H H' v r → q r ρ' → Q v H') (hx : ∀ c M' H' ρ', Post X.K p M σ H ρ M' σ H' ρ' → x c ρ' → W (.ref c) none σ H')
    {M1 : Addr → Prop} {H1 : Hp} {ρ1 : Ev} (P1 : Post X.K p M σ H ρ M1 σ H1 ρ1) (S1 : Slots ρ ρ1) {t : ET} (h : t ρ1 q x) : lift X.K p W t σ H1 Q :=
  ⟨M1, ρ1, q, x, P1.sim, h, fun v M2 H2 ρ2 r P2 S2 R2 h2 => hq v M2 H2 ρ2 r (P1.trans S P2) (S1.trans S2) (R2.back P1.step.dom) h2, fun c M2 H2 ρ2 P2 h2 => hx c M2 H2 ρ2 (P1.trans S P2) h2⟩
theorem de_one {op : BoolOp} {t : ET} (h : DE X p W a t) : DE X p W (.BoolOp op [a] pos) t := ⟨pe_one h.pe⟩
theorem de_and (ha : DE X p W a ta) (hb : DE X p W (.BoolOp .And (b :: rest) pos) tb) : DE X p W (.BoolOp .And (a :: b :: rest) pos) (tAnd' ta tb) :=
  ⟨PE.imp (pe_and ha.pe hb.pe) fun σ H Q ⟨M, ρ, q, xq, S, ht, hq, hx⟩ => by
    refine ⟨M, ρ, _, _, S, ht, fun v M1 H1 ρ1 r1 P1 S1 R1 h1 => ?_, hx⟩
    obtain ⟨k, e, h2⟩ := some!_ok h1
    refine ⟨k, blR_ok e R1, ?_⟩
    cases k with
    | true =>
      rw [if_pos rfl] at h2 ⊢
      exact enext S hq hx P1 S1 h2
    | false =>
      rw [if_neg Bool.false_ne_true] at h2 ⊢
      exact hq _ M1 H1 ρ1 _ P1 S1 (RVok.dd (.bl false)) h2⟩
theorem de_or (ha : DE X p W a ta) (hb : DE X p W (.BoolOp .Or (b :: rest) pos) tb) : DE X p W (.BoolOp .Or (a :: b :: rest) pos) (tOr' ta tb) :=
  ⟨PE.imp (pe_or ha.pe hb.pe) fun σ H Q ⟨M, ρ, q, xq, S, ht, hq, hx⟩ => by
    refine ⟨M, ρ, _, _, S, ht, fun v M1 H1 ρ1 r1 P1 S1 R1 h1 => ?_, hx⟩
    obtain ⟨k, e, h2⟩ := some!_ok h1
    refine ⟨k, blR_ok e R1, ?_⟩
    cases k with
    | true =>
      rw [if_pos rfl] at h2 ⊢
      exact hq _ M1 H1 ρ1 _ P1 S1 (RVok.dd (.bl true)) h2
    | false =>
      rw [if_neg Bool.false_ne_true] at h2 ⊢
      exact enext S hq hx P1 S1 h2⟩
theorem de_not (ha : DE X p W a ta) : DE X p W (.UnaryOp .Not a pos) (tNot' ta) :=
  ⟨PE.imp (pe_not ha.pe) fun σ H Q ⟨M, ρ, q, xq, S, ht, hq, hx⟩ => by
    refine ⟨M, ρ, _, _, S, ht, fun v M1 H1 ρ1 r1 P1 S1 R1 h1 => ?_, hx⟩
    obtain ⟨k, e, h2⟩ := some!_ok h1
    exact ⟨k, blR_ok e R1, hq _ M1 H1 ρ1 _ P1 S1 (RVok.dd (.bl _)) h2⟩⟩
def tIf' (tc : BT) (ta tb : ET) : ET := fun ρ q x => tc ρ (fun k ρ1 => if k = true then ta ρ1 q x else tb ρ1 q x) x
theorem de_if (hc : DB X p W c ua) (ha : DE X p W a ta) (hb : DE X p W b tb) : DE X p W (.IfExp c a b pos) (tIf' ua ta tb) :=
  ⟨PE.imp (pe_ifExp hc.pt ha.pe hb.pe) fun σ H Q ⟨M, ρ, q, xq, S, ht, hq, hx⟩ => by
    refine ⟨M, ρ, _, _, S, ht, fun k M1 H1 ρ1 P1 S1 h1 => ?_, hx⟩
    cases k with
    | true =>
      rw [if_pos rfl] at h1 ⊢
      exact enext S hq hx P1 S1 h1
    | false =>
      rw [if_neg Bool.false_ne_true] at h1 ⊢
      exact enext S hq hx P1 S1 h1⟩
end
end DL

set_option Elab.async false
set_option linter.all false
set_option maxRecDepth 100000
set_option maxHeartbeats 4000000
namespace DL
open PySem PySem.Spec PyProof.Rows L2

section
variable {K : PySem.W.Frag} {M : Addr → Prop} {H : Hp} {v : V}
theorem RepC.int {i : Int} (h : RepC K M H v (.int i)) : v = .int i := by
  rcases h with h | ⟨p, _, h⟩
  · cases h with | int _ => rfl
  · exact h.elim
theorem RepC.bl {b : Bool} (h : RepC K M H v (.bl b)) : v = .bl b := by
  rcases h with h | ⟨p, _, h⟩
  · cases h with | bl _ => rfl
  · exact h.elim
theorem RepC.str {x : Str} (h : RepC K M H v (.str x)) : v = .str x := by
  rcases h with h | ⟨p, _, h⟩
  · cases h with | str _ => rfl
  · exact h.elim
theorem RepC.non (h : RepC K M H v .non) : v = .non := by
  rcases h with h | ⟨p, _, h⟩
  · cases h with | non => rfl
  · exact h.elim
theorem RepC.tup {ds : List D} (h : RepC K M H v (.tup ds)) : ∃ a xs, v = .ref a ∧ SqTM K M H a xs ∧ RepL K M H xs ds := by
  rcases h with h | ⟨p, _, h⟩
  · cases h with | tup h r => exact ⟨_, _, rfl, h, r⟩
  · exact h.elim
theorem RepC.lst {ds : List D} (h : RepC K M H v (.lst ds)) : ∃ a xs, v = .ref a ∧ H a = some (.lst xs) ∧ RepL K M H xs ds := by
  rcases h with h | ⟨p, rfl, h⟩
  · cases h with | lst h n r => exact ⟨_, _, rfl, h, r⟩
  · obtain ⟨xs, e, r⟩ := h
    exact ⟨p, xs, rfl, e, r⟩
theorem RepC.fz {ds : List D} (h : RepC K M H v (.fz ds)) : ∃ a xs, v = .ref a ∧ SqLM K M H a xs ∧ RepL K M H xs ds := by
  rcases h with h | ⟨p, _, h⟩
  · cases h with | fz h r => exact ⟨_, _, rfl, h, r⟩
  · exact h.elim
theorem RepC.dic {ds : List (Key × D)} (h : RepC K M H v (.dic ds)) : ∃ a xs, v = .ref a ∧ H a = some (.dK xs) ∧ RepK K M H xs ds := by
  rcases h with h | ⟨p, rfl, h⟩
  · cases h with | dic h n r => exact ⟨_, _, rfl, h, r⟩
  · obtain ⟨xs, e, r⟩ := h
    exact ⟨p, xs, rfl, e, r⟩
theorem RepC.dit {ds : List (List Key × D)} (h : RepC K M H v (.dit ds)) : ∃ a xs, v = .ref a ∧ H a = some (.dT xs) ∧ RepT K M H xs ds := by
  rcases h with h | ⟨p, rfl, h⟩
  · cases h with | dit h n r => exact ⟨_, _, rfl, h, r⟩
  · obtain ⟨xs, e, r⟩ := h
    exact ⟨p, xs, rfl, e, r⟩
theorem RepC.op {u : V} (h : RepC K M H v (.op u)) : v = u := by
  rcases h with h | ⟨p, _, h⟩
  · cases h with | op _ => rfl
  · exact h.elim
end

/-! ### arithmetic -/
def fI (C : Int → Int → Prop) (g : Int → Int → D) : D → D → (RV → Prop) → Prop := fun a b q => match a, b with
  | .int i, .int j => C i j ∧ q (.d (g i j))
  | _, _ => False
def fI0 (g : Int → Int → D) : D → D → (RV → Prop) → Prop := fun a b q => match a, b with
  | .int i, .int j => q (.d (g i j))
  | _, _ => False
theorem rI_ok {K : PySem.W.Frag} {C : Int → Int → Prop} {g : Int → Int → V} {g' : Int → Int → D} (hg : ∀ i j M H, Rep K M H (g i j) (g' i j)) : R2D K (rI C g) (fI C g') := by
  intro M H x y a b Q q mok ra rb h k
  cases a <;> cases b <;> first
    | exact h.elim
    | (obtain ⟨hc, h⟩ := h
       exact ⟨_, _, ra.int, rb.int, hc, k _ M H _ (ResOk.same mok (hg _ _ M H)) h⟩)
theorem rI0_ok {K : PySem.W.Frag} {g : Int → Int → V} {g' : Int → Int → D} (hg : ∀ i j M H, Rep K M H (g i j) (g' i j)) : R2D K (rI0 g) (fI0 g') := by
  intro M H x y a b Q q mok ra rb h k
  cases a <;> cases b <;> first
    | exact h.elim
    | exact ⟨_, _, ra.int, rb.int, k _ M H _ (ResOk.same mok (hg _ _ M H)) h⟩
theorem R2D.or1 {K : PySem.W.Frag} {r r' : R2} {f : D → D → (RV → Prop) → Prop} (h : R2D K r f) : R2D K (fun x y H Q => r x y H Q ∨ r' x y H Q) f := fun M H x y a b Q q mok ra rb hf k => .inl (h M H x y a b Q q mok ra rb hf k)
theorem R2D.or2 {K : PySem.W.Frag} {r r' : R2} {f : D → D → (RV → Prop) → Prop} (h : R2D K r' f) : R2D K (fun x y H Q => r x y H Q ∨ r' x y H Q) f := fun M H x y a b Q q mok ra rb hf k => .inr (h M H x y a b Q q mok ra rb hf k)
/-- a + b -/
def fAdd : D → D → (RV → Prop) → Prop := fun a b q => match a, b with
  | .int i, .int j => q (.d (.int (i + j)))
  | .str x, .str y => x.length + y.length ≤ sizeLine ∧ q (.d (.str (x ++ y)))
  | .lst xs, .lst ys => xs.length + ys.length ≤ sizeLine ∧ q (.n (.lst (xs ++ ys)))
  | .tup xs, .tup ys => xs.length + ys.length ≤ sizeLine ∧ q (.d (.tup (xs ++ ys)))
  | _, _ => False
def rAddA (K : PySem.W.Frag) : R2 := fun x y H Q => rI0 (fun i j => .int (i + j)) x y H Q ∨ (∃ i j, x = .str i ∧ y = .str j ∧ i.length + j.length ≤ sizeLine ∧ Q (.str (i ++ j)) H) ∨ rCat x y H Q ∨ rCatA K x y H Q
theorem op_addA {X : Cx} : OpR X (binaryOp .Add) (rAddA X.K) := op_add.or (op_add_str.or (op_cat.or op_catA))
theorem rAdd_ok {K : PySem.W.Frag} : R2D K (rAddA K) fAdd := by
  intro M H x y a b Q q mok ra rb h k
  cases a with
  | int i =>
    cases b with
    | int j => exact .inl ⟨_, _, ra.int, rb.int, k _ M H _ (ResOk.same mok (.int _)) h⟩
    | _ => exact h.elim
  | str i =>
    cases b with
    | str j => exact .inr (.inl ⟨_, _, ra.str, rb.str, h.1, k _ M H _ (ResOk.same mok (.str _)) h.2⟩)
    | _ => exact h.elim
  | lst ds =>
    cases b with
    | lst es =>
      obtain ⟨p, xs, e1, h1, r1⟩ := ra.lst
      obtain ⟨u, ys, e2, h2, r2⟩ := rb.lst
      refine .inr (.inr (.inl ⟨p, u, xs, ys, e1, e2, h1, h2, by rw [r1.length, r2.length]; exact h.1, fun l hl => k _ _ _ _ (ResOk.lst mok hl (r1.append r2)) h.2⟩))
    | _ => exact h.elim
  | tup ds =>
    cases b with
    | tup es =>
      obtain ⟨p, xs, rfl, h1, r1⟩ := ra.tup
      obtain ⟨u, ys, rfl, h2, r2⟩ := rb.tup
      refine .inr (.inr (.inr ⟨p, u, xs, ys, rfl, rfl, h1.sq, h2.sq, by rw [r1.length, r2.length]; exact h.1, fun e => ?_, fun _ e => ?_, fun _ _ l hl => k _ _ _ _ (ResOk.tup mok hl (r1.append r2)) h.2⟩))
      · subst e
        cases r1
        exact k _ M H _ (ResOk.same mok (.tup h2 r2)) h.2
      · subst e
        cases r2
        have h3 := h.2
        rw [List.append_nil] at h3
        exact k _ M H _ (ResOk.same mok (.tup h1 r1)) h3
    | _ => exact h.elim
  | _ => exact h.elim
/-- a * b -/
def fMul : D → D → (RV → Prop) → Prop := fun a b q => match a, b with
  | .int i, .int j => CMulX i j ∧ q (.d (.int (i * j)))
  | .lst xs, .int k => -(2 ^ 63) ≤ k ∧ k < 2 ^ 63 ∧ xs.length * k.toNat ≤ sizeLine ∧ q (.n (.lst (List.replicate k.toNat xs).flatten))
  | .tup xs, .int k => xs ≠ [] ∧ 2 ≤ k ∧ k ≤ 1000 ∧ xs.length ≤ 1000 ∧ q (.d (.tup (List.replicate k.toNat xs).flatten))
  | _, _ => False
def rMulA (K : PySem.W.Frag) : R2 := fun x y H Q => rI CMulX (fun i j => .int (i * j)) x y H Q ∨ rRep x y H Q ∨ rRepT K x y H Q
theorem op_mulA {X : Cx} : OpR X (binaryOp .Mult) (rMulA X.K) := op_mulX.or (op_rep.or op_repT)
theorem rMul_ok {K : PySem.W.Frag} : R2D K (rMulA K) fMul := by
  intro M H x y a b Q q mok ra rb h k
  cases a with
  | int i =>
    cases b with
    | int j => exact .inl ⟨_, _, ra.int, rb.int, h.1, k _ M H _ (ResOk.same mok (.int _)) h.2⟩
    | _ => exact h.elim
  | lst ds =>
    cases b with
    | int j =>
      obtain ⟨p, xs, e1, h1, r1⟩ := ra.lst
      exact .inr (.inl ⟨p, j, xs, e1, rb.int, h1, h.1, h.2.1, by rw [r1.length]; exact h.2.2.1, fun l hl => k _ _ _ _ (ResOk.lst mok hl (r1.rep _)) h.2.2.2⟩)
    | _ => exact h.elim
  | tup ds =>
    cases b with
    | int j =>
      obtain ⟨p, xs, e1, h1, r1⟩ := ra.tup
      refine .inr (.inr ⟨p, j, xs, e1, rb.int, h1.sq, fun z => h.1 ?_, h.2.1, h.2.2.1, by rw [r1.length]; exact h.2.2.2.1, fun l hl => k _ _ _ _ (ResOk.tup mok hl (r1.rep _)) h.2.2.2.2⟩)
      subst z
      cases r1
      rfl
    | _ => exact h.elim
  | _ => exact h.elim
abbrev fSub := fI0 fun i j => .int (i - j)
abbrev fDiv := fI CDivW fun i j => .int (i / j)
abbrev fMod := fI (fun _ j => 0 < j) fun i j => .int (i % j)
abbrev fPow := fI CPow fun i j => .int (i ^ j.toNat)
abbrev fShl := fI CShl fun i j => .int (i * 2 ^ j.toNat)
abbrev fShr := fI (fun _ j => 0 ≤ j) fun i j => .int (i / 2 ^ j.toNat)
abbrev fAnd := fI0 fun i j => .int (Builtin.bitAnd i j)
abbrev fXor := fI0 fun i j => .int (Builtin.bitXor i j)
abbrev fLt := fI0 fun i j => .bl (decide (i < j))
abbrev fLe := fI0 fun i j => .bl (decide (i ≤ j))
abbrev fGt := fI0 fun i j => .bl (decide (j < i))
abbrev fGe := fI0 fun i j => .bl (decide (j ≤ i))

/-! ### == -/
mutual
def pyD : D → PyData
  | .non => .none
  | .bl b => .bool b
  | .int i => .int i
  | .str x => .str x
  | .tup xs => .tuple (pyDs xs)
  | .lst xs => .list (pyDs xs)
  | .fz _ => .dict []
  | .dic _ => .dict []
  | .dit _ => .dict []
  | .op _ => .dict []
def pyDs : List D → List PyData
  | [] => []
  | x :: xs => pyD x :: pyDs xs
end
theorem shaped_dict {kvs : List (PyData × PyData)} (h : (PyData.dict kvs).canLay0 = true) : False := by
  simp [PyData.canLay0] at h
theorem canLay_list {xs : List PyData} (h : (PyData.list xs).canLay0 = true) : PyData.canLayAll0 xs = true := by
  simpa [PyData.canLay0] using h
theorem canLay_tuple {xs : List PyData} (h : (PyData.tuple xs).canLay0 = true) : PyData.canLayAll0 xs = true := by
  simpa [PyData.canLay0] using h
theorem canLay_cons {x : PyData} {xs : List PyData} (h : PyData.canLayAll0 (x :: xs) = true) : x.canLay0 = true ∧ PyData.canLayAll0 xs = true := by
  simpa [PyData.canLayAll0] using h
section
variable {K : PySem.W.Frag} {M : Addr → Prop} {H : Hp}
mutual
theorem dp_of : ∀ {v : V} {d : D}, Rep K M H v d → (pyD d).canLay0 = true → Dp K H v (pyD d)
  | _, _, .non, _ => by unfold pyD; exact .non
  | _, _, .bl b, _ => by unfold pyD; exact .bl b
  | _, _, .int i, _ => by unfold pyD; exact .int i
  | _, _, .str x, _ => by unfold pyD; exact .str x
  | _, _, .op v, h => by unfold pyD at h; exact (shaped_dict h).elim
  | _, _, .tup s r, h => by unfold pyD at h ⊢; exact .tup s.sq (dpL_of r (canLay_tuple h))
  | _, _, .lst s _ r, h => by unfold pyD at h ⊢; exact .lst (SqL.of s) (dpL_of r (canLay_list h))
  | _, _, .fz s r, h => by unfold pyD at h; exact (shaped_dict h).elim
  | _, _, .dic s _ r, h => by unfold pyD at h; exact (shaped_dict h).elim
  | _, _, .dit s _ r, h => by unfold pyD at h; exact (shaped_dict h).elim
theorem dpL_of : ∀ {v : List V} {d : List D}, RepL K M H v d → PyData.canLayAll0 (pyDs d) = true → DpAll K H v (pyDs d)
  | _, _, .nil, _ => by unfold pyDs; exact .nil
  | _, _, .cons h r, c => by unfold pyDs at c ⊢; exact .cons (dp_of h (canLay_cons c).1) (dpL_of r (canLay_cons c).2)
end
theorem dpC_of {v : V} {d : D} (h : RepC K M H v d) (c : (pyD d).canLay0 = true) : Dp K H v (pyD d) := by
  rcases h with h | ⟨p, rfl, h⟩
  · exact dp_of h c
  · cases d with
    | lst ds =>
      obtain ⟨xs, e, r⟩ := h
      unfold pyD at c ⊢
      exact .lst (SqL.of e) (dpL_of r (canLay_list c))
    | dic _ => unfold pyD at c; exact (shaped_dict c).elim
    | dit _ => unfold pyD at c; exact (shaped_dict c).elim
    | _ => exact h.elim
end
/-- data that == takes -/
def shD (d : D) : Prop := SeqAt.shaped (pyD d) = true
def eqD (a b : D) : Bool := PyData.eqv (pyD a) (pyD b)
/-- == of ints, truth values, texts, None at once; of the rest by parts -/
def fEq : D → D → (RV → Prop) → Prop := fun a b q => match a, b with
  | .int i, .int j => q (.d (.bl (decide (i = j))))
  | .non, .non => q (.d (.bl true))
  | .non, .int _ => q (.d (.bl false))
  | .int _, .non => q (.d (.bl false))
  | .bl i, .bl j => q (.d (.bl (decide (i = j))))
  | .int i, .bl j => q (.d (.bl (decide (i = b2i j))))
  | a, b => shD a ∧ shD b ∧ q (.d (.bl (eqD a b)))
def fNe : D → D → (RV → Prop) → Prop := fun a b q => match a, b with
  | .int i, .int j => q (.d (.bl (!decide (i = j))))
  | .non, .non => q (.d (.bl false))
  | .non, .int _ => q (.d (.bl true))
  | .int _, .non => q (.d (.bl true))
  | .bl i, .bl j => q (.d (.bl (!decide (i = j))))
  | .int i, .bl j => q (.d (.bl (!decide (i = b2i j))))
  | a, b => shD a ∧ shD b ∧ q (.d (.bl (!eqD a b)))
theorem sh_int (i : Int) : shD (.int i) := rfl
theorem sh_bl (i : Bool) : shD (.bl i) := rfl
theorem sh_non : shD .non := rfl
theorem eq_int' (i j : Int) : eqD (.int i) (.int j) = decide (i = j) := by
  unfold eqD pyD PyData.eqv
  exact Bool.beq_eq_decide_eq i j
theorem eq_bl' (i j : Bool) : eqD (.bl i) (.bl j) = decide (i = j) := by
  unfold eqD pyD PyData.eqv
  exact Bool.beq_eq_decide_eq i j
theorem eq_ib' (i : Int) (j : Bool) : eqD (.int i) (.bl j) = decide (i = b2i j) := by
  unfold eqD pyD PyData.eqv
  cases j <;> exact Bool.beq_eq_decide_eq i _
theorem fEq_sh {a b : D} {q : RV → Prop} (h : fEq a b q) : shD a ∧ shD b ∧ q (.d (.bl (eqD a b))) := by
  unfold fEq at h
  split at h
  · exact ⟨sh_int _, sh_int _, by rw [eq_int']; exact h⟩
  · exact ⟨sh_non, sh_non, by rw [show eqD .non .non = true from rfl]; exact h⟩
  · exact ⟨sh_non, sh_int _, by rw [show eqD .non (.int _) = false from rfl]; exact h⟩
  · exact ⟨sh_int _, sh_non, by rw [show eqD (.int _) .non = false from rfl]; exact h⟩
  · exact ⟨sh_bl _, sh_bl _, by rw [eq_bl']; exact h⟩
  · exact ⟨sh_int _, sh_bl _, by rw [eq_ib']; exact h⟩
  · exact h
theorem fNe_sh {a b : D} {q : RV → Prop} (h : fNe a b q) : shD a ∧ shD b ∧ q (.d (.bl (!eqD a b))) := by
  unfold fNe at h
  split at h
  · exact ⟨sh_int _, sh_int _, by rw [eq_int']; exact h⟩
  · exact ⟨sh_non, sh_non, by rw [show eqD .non .non = true from rfl]; exact h⟩
  · exact ⟨sh_non, sh_int _, by rw [show eqD .non (.int _) = false from rfl]; exact h⟩
  · exact ⟨sh_int _, sh_non, by rw [show eqD (.int _) .non = false from rfl]; exact h⟩
  · exact ⟨sh_bl _, sh_bl _, by rw [eq_bl']; exact h⟩
  · exact ⟨sh_int _, sh_bl _, by rw [eq_ib']; exact h⟩
  · exact h
theorem rEq_ok {K : PySem.W.Frag} : R2D K (rEqD K) fEq := by
  intro M H x y a b Q q mok ra rb h k
  obtain ⟨h1, h2, h3⟩ := fEq_sh h
  exact ⟨pyD a, pyD b, dpC_of ra (SeqAt.canLay_of_shaped h1), dpC_of rb (SeqAt.canLay_of_shaped h2), h1, h2, k _ M H _ (ResOk.same mok (.bl _)) h3⟩
theorem rNe_ok {K : PySem.W.Frag} : R2D K (rNeD K) fNe := by
  intro M H x y a b Q q mok ra rb h k
  obtain ⟨h1, h2, h3⟩ := fNe_sh h
  exact ⟨pyD a, pyD b, dpC_of ra (SeqAt.canLay_of_shaped h1), dpC_of rb (SeqAt.canLay_of_shaped h2), h1, h2, k _ M H _ (ResOk.same mok (.bl _)) h3⟩
/-- is None, is True -/
def isNon : D → Option Bool
  | .non => some true
  | .op _ => none
  | _ => some false
def fIs (neg : Bool) : D → D → (RV → Prop) → Prop := fun a b q => match b with
  | .non => some! (isNon a) fun k => q (.d (.bl (neg ^^ k)))
  | .bl j => match a with
    | .bl i => q (.d (.bl (neg ^^ decide (i = j))))
    | _ => False
  | _ => False
def rIsA (K : PySem.W.Frag) : R2 := fun x y H Q => (y = .non ∧ Q (.bl (decide (x = .non))) H) ∨ rIsB x y H Q
def rNotA (K : PySem.W.Frag) : R2 := fun x y H Q => (y = .non ∧ Q (.bl (!decide (x = .non))) H) ∨ rNotB x y H Q
theorem op_isA {X : Cx} : OpR X (compareOp .Is) (rIsA X.K) := op_isN.or op_isBl
theorem op_notA {X : Cx} : OpR X (compareOp .IsNot) (rNotA X.K) := op_notN.or op_notBl
theorem isNon_ok {K : PySem.W.Frag} {M : Addr → Prop} {H : Hp} {v : V} {d : D} {b : Bool} (h : RepC K M H v d) (e : isNon d = some b) : decide (v = .non) = b := by
  have z : ∀ {c : Bool}, some c = some b → c = b := fun e => Option.some.inj e
  rcases h with h | ⟨p, rfl, h⟩
  · cases h with
    | op v => exact nomatch (show (none : Option Bool) = some b from e)
    | non => exact (decide_eq_true rfl).trans (z e)
    | _ => exact (decide_eq_false fun z => nomatch z).trans (z e)
  · cases d with
    | lst _ => exact (decide_eq_false fun z => nomatch z).trans (z e)
    | dic _ => exact (decide_eq_false fun z => nomatch z).trans (z e)
    | dit _ => exact (decide_eq_false fun z => nomatch z).trans (z e)
    | _ => exact h.elim
theorem rIs_ok {K : PySem.W.Frag} : R2D K (rIsA K) (fIs false) := by
  intro M H x y a b Q q mok ra rb h k
  cases b with
  | non =>
    obtain ⟨c, e, h⟩ := some!_ok h
    refine .inl ⟨rb.non, ?_⟩
    rw [isNon_ok ra e]
    refine k _ M H _ (ResOk.same mok (.bl _)) ?_
    rw [Bool.false_xor] at h
    exact h
  | bl j =>
    cases a with
    | bl i =>
      refine .inr ⟨i, j, ra.bl, rb.bl, k _ M H _ (ResOk.same mok (.bl _)) ?_⟩
      have h : q (.d (.bl (false ^^ decide (i = j)))) := h
      rw [Bool.false_xor] at h
      exact h
    | _ => exact h.elim
  | _ => exact h.elim
theorem rIsNot_ok {K : PySem.W.Frag} : R2D K (rNotA K) (fIs true) := by
  intro M H x y a b Q q mok ra rb h k
  cases b with
  | non =>
    obtain ⟨c, e, h⟩ := some!_ok h
    refine .inl ⟨rb.non, ?_⟩
    rw [isNon_ok ra e]
    refine k _ M H _ (ResOk.same mok (.bl _)) ?_
    rw [Bool.true_xor] at h
    exact h
  | bl j =>
    cases a with
    | bl i =>
      refine .inr ⟨i, j, ra.bl, rb.bl, k _ M H _ (ResOk.same mok (.bl _)) ?_⟩
      have h : q (.d (.bl (true ^^ decide (i = j)))) := h
      rw [Bool.true_xor] at h
      exact h
    | _ => exact h.elim
  | _ => exact h.elim

/-! ### subscripts -/
theorem ixN_len {n m : Nat} {i : Int} (h : n = m) : ixN n i = ixN m i := by rw [h]
theorem RepL.at {K : PySem.W.Frag} {M : Addr → Prop} {H : Hp} {xs : List V} {ds : List D} {i : Int} {d : D} (r : RepL K M H xs ds) (h : atI ds i = some d) : ∃ v, atI xs i = some v ∧ Rep K M H v d := by
  unfold atI at h ⊢
  rw [r.length]
  cases e : ixN ds.length i with
  | none => rw [e] at h; cases h
  | some j =>
    rw [e] at h
    exact r.get h
def fIx : D → D → (RV → Prop) → Prop := fun a b q => match a, b with
  | .lst xs, .int i => some! (atI xs i) fun x => q (.d x)
  | .tup xs, .int i => some! (atI xs i) fun x => q (.d x)
  | .fz xs, .int i => some! (atI xs i) fun x => q (.d x)
  | .str x, .int i => x.length ≤ sizeLine ∧ some! (atI x.cps.toList i) fun c => q (.d (.str ⟨#[c]⟩))
  | _, _ => False
theorem rIx_ok {K : PySem.W.Frag} : R2D K (rIx K) fIx := by
  intro M H x y a b Q q mok ra rb h k
  cases a with
  | lst ds =>
    cases b with
    | int i =>
      obtain ⟨d, e, h⟩ := some!_ok h
      obtain ⟨p, xs, ex, hx, r⟩ := ra.lst
      obtain ⟨v, e2, rv⟩ := r.at e
      exact .inl ⟨p, xs, i, v, ex, rb.int, SqL.of hx, e2, k _ M H _ (ResOk.same mok rv) h⟩
    | _ => exact h.elim
  | tup ds =>
    cases b with
    | int i =>
      obtain ⟨d, e, h⟩ := some!_ok h
      obtain ⟨p, xs, ex, hx, r⟩ := ra.tup
      obtain ⟨v, e2, rv⟩ := r.at e
      exact .inr (.inl ⟨p, xs, i, v, ex, rb.int, hx.sq, e2, k _ M H _ (ResOk.same mok rv) h⟩)
    | _ => exact h.elim
  | fz ds =>
    cases b with
    | int i =>
      obtain ⟨d, e, h⟩ := some!_ok h
      obtain ⟨p, xs, ex, hx, r⟩ := ra.fz
      obtain ⟨v, e2, rv⟩ := r.at e
      exact .inl ⟨p, xs, i, v, ex, rb.int, hx.sq, e2, k _ M H _ (ResOk.same mok rv) h⟩
    | _ => exact h.elim
  | str z =>
    cases b with
    | int i =>
      obtain ⟨hz, h⟩ := h
      obtain ⟨c, e, h⟩ := some!_ok h
      exact .inr (.inr ⟨z, i, c, ra.str, rb.int, hz, e, k _ M H _ (ResOk.same mok (.str _)) h⟩)
    | _ => exact h.elim
  | _ => exact h.elim
theorem de_ix {X : Cx} {p : Amb} {W : WX} {a b : Expr} {ta tb : ET} {pos : Pos} (ha : DE X p W a ta) (hb : DE X p W b tb) (hs : PlainIx b) : DE X p W (.Subscript a b pos) (t2 fIx ta tb) :=
  ⟨PE.imp (pe_ix ix_seq ha.pe hb.pe hs) fun _ _ _ h => t2_ok rIx_ok h⟩

/-! ### one-place operations -/
def f1 (f : D → (RV → Prop) → Prop) (a : Option D) (q : RV → Prop) : Prop := match a with
  | some x => f x q
  | _ => False
def t1 (f : D → (RV → Prop) → Prop) (ta : ET) : ET := fun ρ q x => ta ρ (fun r ρ1 => f1 f (rd ρ1 r) fun z => q z ρ1) x
def R1D (K : PySem.W.Frag) (r : V → Hp → VK → Prop) (f : D → (RV → Prop) → Prop) : Prop := ∀ (M : Addr → Prop) (H : Hp) (x : V) (a : D) (Q : VK) (q : RV → Prop), (∀ p, M p → H p ≠ none) → RepC K M H x a → f a q →
  (∀ v M' H' z, ResOk K M H M' H' v z → q z → Q v H') → r x H Q
theorem f1_ok {f : D → (RV → Prop) → Prop} {a : Option D} {q : RV → Prop} (h : f1 f a q) : ∃ x, a = some x ∧ f x q := by
  cases a with
  | none => exact h.elim
  | some x => exact ⟨x, rfl, h⟩
theorem t1_ok {X : Cx} {p : Amb} {W : WX} {ta : ET} {r : V → Hp → VK → Prop} {f : D → (RV → Prop) → Prop} (hr : R1D X.K r f) {σ : L2.St} {H : Hp} {Q : VK} (h : lift X.K p W (t1 f ta) σ H Q) : lift X.K p W ta σ H fun x H1 => r x H1 Q := by
  obtain ⟨M, ρ, q, xq, S, ht, hq, hx⟩ := h
  refine ⟨M, ρ, _, _, S, ht, fun v M1 H1 ρ1 r1 P1 S1 R1 h1 => ?_, hx⟩
  obtain ⟨x, e1, h3⟩ := f1_ok h1
  refine hr M1 H1 v x Q _ P1.sim.mok (rd_ok P1.sim R1 e1) h3 fun w M3 H3 z ok hz => ?_
  obtain ⟨P3, R3⟩ := ok.fin S P1
  exact hq w M3 H3 ρ1 z P3 S1 R3 hz
theorem de_un {X : Cx} {p : Amb} {W : WX} {ta : ET} {a : Expr} {pos : Pos} {op : UnaryOp} {r : V → Hp → VK → Prop} {f : D → (RV → Prop) → Prop} (ho : UnR X (unaryOp op) r) (hr : R1D X.K r f) (ha : DE X p W a ta) : DE X p W (.UnaryOp op a pos) (t1 f ta) :=
  ⟨PE.imp (pe_un ho ha.pe) fun _ _ _ h => t1_ok hr h⟩
def fNeg : D → (RV → Prop) → Prop := fun a q => match a with
  | .int i => q (.d (.int (-i)))
  | _ => False
theorem neg_ok {K : PySem.W.Frag} : R1D K (rU fun i => .int (-i)) fNeg := by
  intro M H x a Q q mok ra h k
  cases a with
  | int i => exact ⟨i, ra.int, k _ M H _ (ResOk.same mok (.int _)) h⟩
  | _ => exact h.elim
/-- the truth of a value, as a test -/
def truD : D → (Bool → Prop) → Prop := fun a q => match a with
  | .non => q false
  | .bl b => q b
  | .int i => q (i != 0)
  | .str y => y.length ≤ sizeLine ∧ q ((y.length : Int) != 0)
  | .lst xs => q (!xs.isEmpty)
  | .tup xs => q (!xs.isEmpty)
  | _ => False
def tTr (ta : ET) : BT := fun ρ q x => ta ρ (fun r ρ1 => match rd ρ1 r with
  | some d => truD d fun b => q b ρ1
  | none => False) x
theorem RepL.isEmpty {K : PySem.W.Frag} {M : Addr → Prop} {H : Hp} {xs : List V} {ds : List D} (r : RepL K M H xs ds) : xs.isEmpty = ds.isEmpty := by cases r <;> rfl
theorem truD_ok {K : PySem.W.Frag} {M : Addr → Prop} {H : Hp} {v : V} {d : D} {q : Bool → Prop} (r : RepC K M H v d) (h : truD d q) : ∃ k, TruV K v H k ∧ q k := by
  cases d with
  | non => rw [r.non]; exact ⟨false, rfl, h⟩
  | bl b => rw [r.bl]; exact ⟨b, rfl, h⟩
  | int i => rw [r.int]; exact ⟨_, rfl, h⟩
  | str y => rw [r.str]; exact ⟨_, ⟨h.1, rfl⟩, h.2⟩
  | lst ds =>
    obtain ⟨p, xs, rfl, hx, r⟩ := r.lst
    exact ⟨_, .inl ⟨xs, SqL.of hx, rfl⟩, by rw [r.isEmpty]; exact h⟩
  | tup ds =>
    obtain ⟨p, xs, rfl, hx, r⟩ := r.tup
    exact ⟨_, .inr (.inl ⟨xs, hx.sq, rfl⟩), by rw [r.isEmpty]; exact h⟩
  | _ => exact h.elim
theorem db_tru {X : Cx} {p : Amb} {W : WX} {ta : ET} {a : Expr} (ha : DE X p W a ta) (he : ∀ whole, isTrue a X.env whole = (do let v ← whole; standAt a.pos; holding [v] (truthy v)) := by intro _; rfl) : DB X p W a (tTr ta) :=
  ⟨PT.imp (pt_truth ha.pe he) fun σ H Q ⟨M, ρ, q, xq, S, ht, hq, hx⟩ => by
    refine ⟨M, ρ, _, _, S, ht, fun v M1 H1 ρ1 r1 P1 S1 R1 h1 => ?_, hx⟩
    cases e : rd ρ1 r1 with
    | none =>
      simp only [e] at h1
    | some d =>
      simp only [e] at h1
      obtain ⟨k, h2, h3⟩ := truD_ok (rd_ok P1.sim R1 e) h1
      exact ⟨k, h2, hq k M1 H1 ρ1 P1 S1 h3⟩⟩

/-! ### argument lists -/
def cool : RV → RV
  | .n x => .d x
  | r => r
def aNil : AT := fun ρ q _ => q [] ρ
def aCons (ta : ET) (tr : AT) : AT := fun ρ q x => ta ρ (fun r ρ1 => tr ρ1 (fun rs ρ2 => q (cool r :: rs) ρ2) x) x
section
variable {K : PySem.W.Frag} {p0 : Amb} {M0 M : Addr → Prop} {σ : L2.St} {H0 H : Hp} {ρ0 ρ : Ev} {v : V}
/-- fewer are hot -/
theorem Sim.less (S : Sim K p0 M σ H ρ) {M' : Addr → Prop} (h : ∀ a, M' a → M a) (w : ∀ a, Wr σ ρ a → M' a) : Sim K p0 M' σ H ρ := by
  have k : Keep M H M' H := fun a o e n _ => ⟨e, fun z => n (h a z)⟩
  refine ⟨S.len, fun i d e => ?_, fun i d e => ?_, fun i d e => ?_, S.inj, fun a z => S.mok a (h a z), S.p0k, S.tabs⟩
  · obtain ⟨v, e1, r⟩ := S.va i d e
    exact ⟨v, e1, r.keep k⟩
  · obtain ⟨q, e1, m, o, n⟩ := S.ow i d e
    exact ⟨q, e1, w q ⟨i, d, .inl e, e1⟩, o.keep k fun _ z _ => z, n⟩
  · obtain ⟨q, e1, m, o, n⟩ := S.io i d e
    exact ⟨q, e1, w q ⟨i, d, .inr e, e1⟩, o.keep k fun _ z _ => z, n⟩
theorem cool_ok {σ0 : L2.St} (S0 : Sim K p0 M0 σ0 H0 ρ0) (P : Post K p0 M0 σ0 H0 ρ0 M σ H ρ) {r : RV} (ok : RVok K M σ ρ H0 H v r) :
    ∃ M', Post K p0 M0 σ0 H0 ρ0 M' σ H ρ ∧ RVok K M' σ ρ H0 H v (cool r) := by
  cases r with
  | d x => exact ⟨M, P, ok⟩
  | o i => exact ⟨M, P, ok⟩
  | n x =>
    obtain ⟨p, rfl, m, nw, f, o⟩ := ok
    have k : Keep M H (fun a => M a ∧ a ≠ p) H := fun a o e n _ => ⟨e, fun z => n z.1⟩
    refine ⟨fun a => M a ∧ a ≠ p, ⟨P.sim.less (fun a z => z.1) fun a z => ⟨P.sim.hot z, fun e => nw (e ▸ z)⟩, ⟨P.step.fr, fun a z => P.step.sub a z.1, fun a z n => ⟨P.step.kp a z n, fun e => S0.mok a z (e ▸ f)⟩, P.step.dom, P.step.tb⟩, P.wr⟩, ?_⟩
    exact RVok.dd ((o.keep k fun _ z _ => z).rep fun z => z.2 rfl)
theorem cool_n (r : RV) : ∀ y, cool r ≠ .n y := by
  intro y
  cases r with
  | d x => exact fun z => nomatch z
  | n x => exact fun z => nomatch z
  | o i => exact fun z => nomatch z
end
section
variable {X : Cx} {p : Amb} {W : WX} {e : Expr} {es : List Expr} {te : ET} {t : AT} {pos : Pos}
theorem da_nil : DA X p W [] aNil := ⟨PA.imp pa_nil fun σ H Q ⟨M, ρ, q, xq, S, ht, hq, hx⟩ => hq [] M H ρ [] (Post.refl S) (Slots.refl ρ) .nil ht⟩
theorem da_cons (ha : DE X p W e te) (hr : DA X p W es t) (hs : starEach (e :: es) X.env = (false, eval e X.env) :: starEach es X.env := by rfl) : DA X p W (e :: es) (aCons te t) :=
  ⟨PA.imp (pa_cons ha.pe hr.pa hs) fun σ H Q ⟨M, ρ, q, xq, S, ht, hq, hx⟩ => by
    refine ⟨M, ρ, _, _, S, ht, fun v M1 H1 ρ1 r1 P1 S1 R1 h1 => ?_, hx⟩
    obtain ⟨M1', P1', R1'⟩ := cool_ok S P1 R1
    refine ⟨M1', ρ1, _, _, P1'.sim, h1, fun vs M2 H2 ρ2 rs P2 S2 R2 h2 => ?_, fun c M2 H2 ρ2 P2 h2 => hx c M2 H2 ρ2 (P1'.trans S P2) h2⟩
    refine hq (v :: vs) M2 H2 ρ2 _ (P1'.trans S P2) (S1.trans S2) (.cons (R1'.post P1'.sim P2 S2) (cool_n r1) ?_) h2
    clear h2
    induction R2 with
    | nil => exact .nil
    | cons a b c ih => exact .cons (a.back P1'.step.dom) b ih⟩
end
/-- the data of results, as they lie -/
def rdL (ρ : Ev) : List RV → Option (List D)
  | [] => some []
  | r :: rs => match rd ρ r, rdL ρ rs with
    | some x, some xs => some (x :: xs)
    | _, _ => none
inductive RepCL (K : PySem.W.Frag) (M : Addr → Prop) (H : Hp) : List V → List D → Prop
  | nil : RepCL K M H [] []
  | cons {v : V} {vs : List V} {d : D} {ds : List D} : RepC K M H v d → RepCL K M H vs ds → RepCL K M H (v :: vs) (d :: ds)
theorem rdL_ok {K : PySem.W.Frag} {p0 : Amb} {M : Addr → Prop} {σ : L2.St} {H0 H : Hp} {ρ : Ev} (S : Sim K p0 M σ H ρ) : ∀ {vs : List V} {rs : List RV} {ds : List D}, RVsOk K M σ ρ H0 H vs rs → rdL ρ rs = some ds → RepCL K M H vs ds
  | _, _, _, .nil, e => by cases e; exact .nil
  | _, _, _, .cons (r := r) (rs := rs) a b c, e => by
    unfold rdL at e
    cases e1 : rd ρ r with
    | none => simp only [e1] at e; cases e
    | some x =>
      cases e2 : rdL ρ rs with
      | none => simp only [e1, e2] at e; cases e
      | some xs =>
        simp only [e1, e2] at e
        cases e
        exact .cons (rd_ok S a e1) (rdL_ok S c e2)
/-- a call of a built-in by values -/
def RCD (K : PySem.W.Frag) (r : List V → Hp → VK → Prop) (f : List D → (RV → Prop) → Prop) : Prop := ∀ (M : Addr → Prop) (H : Hp) (vs : List V) (ds : List D) (Q : VK) (q : RV → Prop), (∀ p, M p → H p ≠ none) → RepCL K M H vs ds → f ds q →
  (∀ v M' H' z, ResOk K M H M' H' v z → q z → Q v H') → r vs H Q
def tC' (f : List D → (RV → Prop) → Prop) (ta : AT) : ET := fun ρ q x => ta ρ (fun rs ρ1 => some! (rdL ρ1 rs) fun ds => f ds fun z => q z ρ1) x
section
variable {X : Cx} {p : Amb} {W : WX} {e : Expr} {es : List Expr} {te : ET} {t : AT} {pos pos' : Pos} {x : Str} {id : String} {r : List V → Hp → VK → Prop} {f : List D → (RV → Prop) → Prop}
theorem tC_ok (hr : RCD X.K r f) {σ : L2.St} {H : Hp} {Q : VK} (h : lift X.K p W (tC' f t) σ H Q) : tCB r (liftA X.K p W t) σ H Q := by
  obtain ⟨M, ρ, q, xq, S, ht, hq, hx⟩ := h
  refine ⟨M, ρ, _, _, S, ht, fun vs M1 H1 ρ1 rs P1 S1 R1 h1 => ?_, hx⟩
  obtain ⟨ds, e1, h2⟩ := some!_ok h1
  refine hr M1 H1 vs ds Q _ P1.sim.mok (rdL_ok P1.sim R1 e1) h2 fun w M3 H3 z ok hz => ?_
  obtain ⟨P3, R3⟩ := ok.fin S P1
  exact hq w M3 H3 ρ1 z P3 S1 R3 hz
theorem de_callB (hc : CallR X (.builtin id) r) (hr : RCD X.K r f) (hg : Gl X x) (hm : X.mg x = none) (hv : bootBuiltins x = some (.builtin id)) (ha : DA X p W (e :: es) t) (hn : x ≠ "__name__" := by decide) (hdb : (x == ("__debug__" : Str)) = false := by decide)
    (he : starEach (e :: es) X.env = (false, eval e X.env) :: starEach es X.env := by rfl) (hpl : (backTo pos (starEach es X.env)).any (·.1) = false := by rfl) : DE X p W (.Call (.Name x pos') (e :: es) [] pos) (tC' f t) :=
  ⟨PE.imp (pe_callB hc hg hm hv ha.pa hn hdb he hpl) fun _ _ _ h => tC_ok hr h⟩
theorem de_callTy (hc : CallR X (.type id) r) (hr : RCD X.K r f) (hg : Gl X x) (hm : X.mg x = none) (hv : bootBuiltins x = some (.type id)) (ha : DA X p W (e :: es) t) (hn : x ≠ "__name__" := by decide) (hdb : (x == ("__debug__" : Str)) = false := by decide)
    (he : starEach (e :: es) X.env = (false, eval e X.env) :: starEach es X.env := by rfl) (hpl : (backTo pos (starEach es X.env)).any (·.1) = false := by rfl) : DE X p W (.Call (.Name x pos') (e :: es) [] pos) (tC' f t) :=
  ⟨PE.imp (pe_callTy hc hg hm hv ha.pa hn hdb he hpl) fun _ _ _ h => tC_ok hr h⟩
end
theorem RepCL.one {K : PySem.W.Frag} {M : Addr → Prop} {H : Hp} {vs : List V} {d : D} (h : RepCL K M H vs [d]) : ∃ v, vs = [v] ∧ RepC K M H v d := by
  cases h with | cons a b => cases b; exact ⟨_, rfl, a⟩
theorem RepCL.two {K : PySem.W.Frag} {M : Addr → Prop} {H : Hp} {vs : List V} {d e : D} (h : RepCL K M H vs [d, e]) : ∃ v u, vs = [v, u] ∧ RepC K M H v d ∧ RepC K M H u e := by
  cases h with | cons a b => cases b with | cons c f => cases f; exact ⟨_, _, rfl, a, c⟩
/-- len -/
def fLen : List D → (RV → Prop) → Prop := fun ds q => match ds with
  | [.lst xs] => q (.d (.int (xs.length : Int)))
  | [.tup xs] => q (.d (.int (xs.length : Int)))
  | [.fz xs] => q (.d (.int (xs.length : Int)))
  | [.str x] => x.length ≤ sizeLine ∧ q (.d (.int (x.length : Int)))
  | _ => False
def rLenA (K : PySem.W.Frag) : List V → Hp → VK → Prop := fun vs H Q => (∃ p ys, vs = [.ref p] ∧ (SqL K H p ys ∨ SqT K H p ys) ∧ Q (.int ys.length) H) ∨ ∃ z, vs = [.str z] ∧ z.length ≤ sizeLine ∧ Q (.int z.length) H
theorem call_lenA {X : Cx} : CallR X (.builtin "len") (rLenA X.K) := call_len_seq.or call_len_str
theorem len_ok {K : PySem.W.Frag} : RCD K (rLenA K) fLen := by
  intro M H vs ds Q q mok r h k
  unfold fLen at h
  split at h
  · obtain ⟨v, rfl, s⟩ := r.one
    obtain ⟨p, xs, rfl, hx, t⟩ := s.lst
    refine .inl ⟨p, xs, rfl, .inl (SqL.of hx), ?_⟩
    rw [t.length]
    exact k _ M H _ (ResOk.same mok (.int _)) h
  · obtain ⟨v, rfl, s⟩ := r.one
    obtain ⟨p, xs, rfl, hx, t⟩ := s.tup
    refine .inl ⟨p, xs, rfl, .inr hx.sq, ?_⟩
    rw [t.length]
    exact k _ M H _ (ResOk.same mok (.int _)) h
  · obtain ⟨v, rfl, s⟩ := r.one
    obtain ⟨p, xs, rfl, hx, t⟩ := s.fz
    refine .inl ⟨p, xs, rfl, .inl hx.sq, ?_⟩
    rw [t.length]
    exact k _ M H _ (ResOk.same mok (.int _)) h
  · obtain ⟨v, rfl, s⟩ := r.one
    rw [s.str]
    exact .inr ⟨_, rfl, h.1, k _ M H _ (ResOk.same mok (.int _)) h.2⟩
  · exact h.elim
/-- abs, int, min, max of ints -/
def fAbs : List D → (RV → Prop) → Prop := fun ds q => match ds with
  | [.int i] => q (.d (.int (if i < 0 then -i else i)))
  | _ => False
theorem abs_ok {K : PySem.W.Frag} : RCD K (fun xs H Q => ∃ i, xs = [.int i] ∧ Q (.int (if i < 0 then -i else i)) H) fAbs := by
  intro M H vs ds Q q mok r h k
  unfold fAbs at h
  split at h
  · obtain ⟨v, rfl, s⟩ := r.one
    rw [s.int]
    exact ⟨_, rfl, k _ M H _ (ResOk.same mok (.int _)) h⟩
  · exact h.elim
def fInt1 : List D → (RV → Prop) → Prop := fun ds q => match ds with
  | [.int i] => q (.d (.int i))
  | [.bl b] => q (.d (.int (if b then 1 else 0)))
  | _ => False
theorem int1_ok {K : PySem.W.Frag} : RCD K (fun xs H Q => (∃ i, xs = [.int i] ∧ Q (.int i) H) ∨ ∃ k, xs = [.bl k] ∧ Q (.int (if k then 1 else 0)) H) fInt1 := by
  intro M H vs ds Q q mok r h k
  unfold fInt1 at h
  split at h
  · obtain ⟨v, rfl, s⟩ := r.one
    rw [s.int]
    exact .inl ⟨_, rfl, k _ M H _ (ResOk.same mok (.int _)) h⟩
  · obtain ⟨v, rfl, s⟩ := r.one
    rw [s.bl]
    exact .inr ⟨_, rfl, k _ M H _ (ResOk.same mok (.int _)) h⟩
  · exact h.elim
def fInts2 (g : Int → Int → Int) : List D → (RV → Prop) → Prop := fun ds q => match ds with
  | [.int i, .int j] => q (.d (.int (g i j)))
  | _ => False
theorem ints2_ok {K : PySem.W.Frag} {g : Int → Int → Int} : RCD K (fun xs H Q => ∃ i j, xs = [.int i, .int j] ∧ Q (.int (g i j)) H) (fInts2 g) := by
  intro M H vs ds Q q mok r h k
  unfold fInts2 at h
  split at h
  · obtain ⟨v, u, rfl, r1, r2⟩ := r.two
    rw [r1.int, r2.int]
    exact ⟨_, _, rfl, k _ M H _ (ResOk.same mok (.int _)) h⟩
  · exact h.elim
abbrev fMax2 := fInts2 fun i j => if j > i then j else i
abbrev fMin2 := fInts2 fun i j => if j < i then j else i
end DL

set_option Elab.async false
set_option linter.all false
set_option maxRecDepth 100000
set_option maxHeartbeats 4000000
namespace DL
open PySem PySem.Spec PyProof.Rows L2

/-! ### a result put away: a slot's own thing grows cold -/
def settleS (i : Nat) (ρ : Ev) : Option Sl → Option (D × Ev)
  | some (.va x) => some (x, ρ)
  | some (.ow x) => some (x, ρ.set i (.va x))
  | _ => none
def settle (ρ : Ev) : RV → Option (D × Ev)
  | .d x => some (x, ρ)
  | .n x => some (x, ρ)
  | .o i => settleS i ρ ρ[i]?
def settleL (ρ : Ev) : List RV → Option (List D × Ev)
  | [] => some ([], ρ)
  | r :: rs => match settle ρ r with
    | some (x, ρ1) => match settleL ρ1 rs with
      | some (xs, ρ2) => some (x :: xs, ρ2)
      | none => none
    | none => none
section
variable {K : PySem.W.Frag} {p0 : Amb} {M0 M : Addr → Prop} {σ : L2.St} {H0 H : Hp} {ρ0 ρ ρ' : Ev} {v : V} {i : Nat} {x : D} {r : RV}
theorem get_set {ρ : Ev} {i j : Nat} {s t : Sl} (h : (ρ.set i s)[j]? = some t) : (j = i ∧ t = s) ∨ (j ≠ i ∧ ρ[j]? = some t) := by
  by_cases e : j = i
  · subst e
    left
    refine ⟨rfl, ?_⟩
    by_cases hl : j < ρ.length
    · rw [List.getElem?_set_self hl] at h
      exact (Option.some.inj h).symm
    · rw [List.getElem?_eq_none (by rw [List.length_set]; omega)] at h
      cases h
  · right
    rw [List.getElem?_set_ne (Ne.symm e)] at h
    exact ⟨e, h⟩
/-- a slot's own thing grows cold -/
theorem freeze_ok (S : Sim K p0 M σ H ρ) {p : Addr} (hi : ρ[i]? = some (.ow x)) (hs : σ[i]? = some (some (.ref p))) :
    ∃ M', Post K p0 M σ H ρ M' σ H (ρ.set i (.va x)) ∧ Slots ρ (ρ.set i (.va x)) ∧ Rep K M' H (.ref p) x := by
  obtain ⟨q, e, m, o, n⟩ := S.ow i x hi
  rw [hs] at e; cases e
  have k : Keep M H (fun a => M a ∧ a ≠ p) H := fun a o e n _ => ⟨e, fun z => n z.1⟩
  have hl : i < ρ.length := (List.getElem?_eq_some_iff.mp hi).1
  have R : Rep K (fun a => M a ∧ a ≠ p) H (.ref p) x := (o.keep k fun _ z _ => z).rep fun z => z.2 rfl
  have ne : ∀ {j : Nat} {d : D} {q : Addr}, j ≠ i → (ρ[j]? = some (.ow d) ∨ ρ[j]? = some (.io d)) → σ[j]? = some (some (.ref q)) → q ≠ p := fun {j d q} hj h1 h2 e => by
    subst e
    exact hj (S.inj j i d x q h1 (.inl hi) h2 hs)
  refine ⟨fun a => M a ∧ a ≠ p, ⟨⟨by rw [List.length_set]; exact S.len, fun j d e => ?_, fun j d e => ?_, fun j d e => ?_, fun j l d e q h1 h2 h3 h4 => ?_, fun a z => S.mok a z.1, S.p0k, S.tabs⟩, ⟨fun a o e _ _ => e, fun a z => .inl z.1, fun a z n => ⟨z, fun e => n ⟨i, x, .inl hi, e ▸ hs⟩⟩, fun a z => z, fun a z => z⟩, fun a ⟨j, d, h1, h2⟩ => ?_⟩, trivial, R⟩
  · rcases get_set e with ⟨rfl, e'⟩ | ⟨_, e'⟩
    · cases e'
      exact ⟨_, hs, R⟩
    · obtain ⟨v, e1, r⟩ := S.va j d e'
      exact ⟨v, e1, r.keep k⟩
  · rcases get_set e with ⟨rfl, e'⟩ | ⟨hj, e'⟩
    · cases e'
    · obtain ⟨q, e1, m, o, n⟩ := S.ow j d e'
      exact ⟨q, e1, ⟨m, ne hj (.inl e') e1⟩, o.keep k fun _ z _ => z, n⟩
  · rcases get_set e with ⟨rfl, e'⟩ | ⟨hj, e'⟩
    · cases e'
    · obtain ⟨q, e1, m, o, n⟩ := S.io j d e'
      exact ⟨q, e1, ⟨m, ne hj (.inr e') e1⟩, o.keep k fun _ z _ => z, n⟩
  · have old : ∀ {j : Nat} {d : D}, ((ρ.set i (.va x))[j]? = some (.ow d) ∨ (ρ.set i (.va x))[j]? = some (.io d)) → (ρ[j]? = some (.ow d) ∨ ρ[j]? = some (.io d)) := fun {j d} h => by
      rcases h with h | h
      · rcases get_set h with ⟨_, e⟩ | ⟨_, e⟩
        · cases e
        · exact .inl e
      · rcases get_set h with ⟨_, e⟩ | ⟨_, e⟩
        · cases e
        · exact .inr e
    exact S.inj j l d e q (old h1) (old h2) h3 h4
  · left
    rcases h1 with h | h
    · rcases get_set h with ⟨_, e⟩ | ⟨_, e⟩
      · cases e
      · exact ⟨j, d, .inl e, h2⟩
    · rcases get_set h with ⟨_, e⟩ | ⟨_, e⟩
      · cases e
      · exact ⟨j, d, .inr e, h2⟩
theorem settle_ok (S : Sim K p0 M σ H ρ) (ok : RVok K M σ ρ H0 H v r) (nn : ∀ y, r ≠ .n y) (e : settle ρ r = some (x, ρ')) : ∃ M', Post K p0 M σ H ρ M' σ H ρ' ∧ Slots ρ ρ' ∧ Rep K M' H v x := by
  cases r with
  | d y =>
    cases e
    exact ⟨M, Post.refl S, Slots.refl ρ, ok⟩
  | n y => exact absurd rfl (nn y)
  | o i =>
    obtain ⟨e1, _⟩ := ok
    have e : settleS i ρ ρ[i]? = some (x, ρ') := e
    cases hy : ρ[i]? with
    | none => rw [hy] at e; cases e
    | some s =>
      rw [hy] at e
      cases s with
      | va y =>
        cases e
        obtain ⟨v', e2, r⟩ := S.va i _ hy
        rw [e1] at e2; cases e2
        exact ⟨M, Post.refl S, Slots.refl ρ, r⟩
      | ow y =>
        cases e
        obtain ⟨p, e2, _⟩ := S.ow i _ hy
        rw [e1] at e2; cases e2
        exact freeze_ok S hy e1
      | _ => cases e
theorem RVsOk.post {M1 : Addr → Prop} {H1 : Hp} {ρ1 : Ev} {vs : List V} {rs : List RV} (S : Sim K p0 M σ H ρ) (P : Post K p0 M σ H ρ M1 σ H1 ρ1) (s : Slots ρ ρ1) (c : RVsOk K M σ ρ H0 H vs rs) : RVsOk K M1 σ ρ1 H0 H1 vs rs := by
  induction c with
  | nil => exact .nil
  | cons a b c ih => exact .cons (a.post S P s) b ih
theorem settleL_ok : ∀ {rs : List RV} {vs : List V} {xs : List D} {M : Addr → Prop} {ρ ρ' : Ev} (S : Sim K p0 M σ H ρ), RVsOk K M σ ρ H0 H vs rs → settleL ρ rs = some (xs, ρ') → ∃ M', Post K p0 M σ H ρ M' σ H ρ' ∧ Slots ρ ρ' ∧ RepL K M' H vs xs
  | [], _, _, M, ρ, _, S, .nil, e => by
    cases e
    exact ⟨M, Post.refl S, Slots.refl ρ, .nil⟩
  | r :: rs, _, _, M, ρ, ρ', S, .cons a b c, e => by
    unfold settleL at e
    split at e
    · rename_i x ρ1 e1
      split at e
      · rename_i xs ρ2 e2
        cases e
        obtain ⟨M1, P1, S1, R1⟩ := settle_ok S a b e1
        obtain ⟨M2, P2, S2, R2⟩ := settleL_ok P1.sim (c.post S P1 S1) e2
        exact ⟨M2, P1.trans S P2, S1.trans S2, .cons (R1.keep (P2.keep P1.sim)) R2⟩
      · cases e
    · cases e
end

/-! ### displays -/
def tTup' (ta : AT) : ET := fun ρ q x => ta ρ (fun rs ρ1 => some! (settleL ρ1 rs) fun z => z.1.length ≤ 1000 ∧ q (.d (.tup z.1)) z.2) x
def tLst' (ta : AT) : ET := fun ρ q x => ta ρ (fun rs ρ1 => some! (settleL ρ1 rs) fun z => z.1.length ≤ 1000 ∧ q (.n (.lst z.1)) z.2) x
theorem sz1000 {n : Nat} (h : n ≤ 1000) : n ≤ sizeLine := Nat.le_of_lt (small1000 h)
section
variable {X : Cx} {p : Amb} {W : WX} {es : List Expr} {t : AT} {pos : Pos}
theorem de_tup {x1} (h : DA X p W es t) : DE X p W (.Tuple es x1 pos) (tTup' t) := ⟨PE.imp (pe_tup h.pa) fun σ H Q ⟨M, ρ, q, xq, S, ht, hq, hx⟩ => by
  refine ⟨M, ρ, _, _, S, ht, fun vs M1 H1 ρ1 rs P1 S1 R1 h1 => ?_, hx⟩
  obtain ⟨⟨ds, ρ2⟩, e, hl, h2⟩ := some!_ok h1
  obtain ⟨M2, P2, S2, R2⟩ := settleL_ok P1.sim R1 e
  refine ⟨by rw [R2.length]; exact sz1000 hl, fun l hp => ?_⟩
  obtain ⟨P3, R3⟩ := (ResOk.tup P2.sim.mok hp R2).fin S (P1.trans S P2)
  exact hq _ _ _ ρ2 _ P3 (S1.trans S2) R3 h2⟩
theorem de_lst (h : DA X p W es t) : DE X p W (.List es pos) (tLst' t) := ⟨PE.imp (pe_lst h.pa) fun σ H Q ⟨M, ρ, q, xq, S, ht, hq, hx⟩ => by
  refine ⟨M, ρ, _, _, S, ht, fun vs M1 H1 ρ1 rs P1 S1 R1 h1 => ?_, hx⟩
  obtain ⟨⟨ds, ρ2⟩, e, hl, h2⟩ := some!_ok h1
  obtain ⟨M2, P2, S2, R2⟩ := settleL_ok P1.sim R1 e
  refine ⟨by rw [R2.length]; exact sz1000 hl, fun l hp => ?_⟩
  obtain ⟨P3, R3⟩ := (ResOk.lst P2.sim.mok hp R2).fin S (P1.trans S P2)
  exact hq _ _ _ ρ2 _ P3 (S1.trans S2) R3 h2⟩
end

/-! ### tuple(xs), list(xs) -/
def fTuple : List D → (RV → Prop) → Prop := fun ds q => match ds with
  | [.lst xs] => q (.d (.tup xs))
  | [.tup xs] => q (.d (.tup xs))
  | _ => False
theorem tuple_ok {K : PySem.W.Frag} : RCD K (fun xs H Q => ∃ p ys, xs = [.ref p] ∧ ((SqL K H p ys ∧ ∀ l, H l = none → Q (.ref l) (upd H l (.tup ys))) ∨ (SqT K H p ys ∧ Q (.ref p) H))) fTuple := by
  intro M H vs ds Q q mok r h k
  unfold fTuple at h
  split at h
  · obtain ⟨v, rfl, s⟩ := r.one
    obtain ⟨p, xs, rfl, hx, t⟩ := s.lst
    exact ⟨p, xs, rfl, .inl ⟨SqL.of hx, fun l hl => k _ _ _ _ (ResOk.tup mok hl t) h⟩⟩
  · obtain ⟨v, rfl, s⟩ := r.one
    obtain ⟨p, xs, rfl, hx, t⟩ := s.tup
    exact ⟨p, xs, rfl, .inr ⟨hx.sq, k _ M H _ (ResOk.same mok (.tup hx t)) h⟩⟩
  · exact h.elim
def fList : List D → (RV → Prop) → Prop := fun ds q => match ds with
  | [.lst xs] => q (.n (.lst xs))
  | [.tup xs] => q (.n (.lst xs))
  | [.fz xs] => q (.n (.lst xs))
  | _ => False
theorem list_ok {K : PySem.W.Frag} : RCD K (fun xs H Q => ∃ p ys, xs = [.ref p] ∧ (SqL K H p ys ∨ SqT K H p ys) ∧ ∀ l, H l = none → Q (.ref l) (upd H l (.lst ys))) fList := by
  intro M H vs ds Q q mok r h k
  unfold fList at h
  split at h
  · obtain ⟨v, rfl, s⟩ := r.one
    obtain ⟨p, xs, rfl, hx, t⟩ := s.lst
    exact ⟨p, xs, rfl, .inl (SqL.of hx), fun l hl => k _ _ _ _ (ResOk.lst mok hl t) h⟩
  · obtain ⟨v, rfl, s⟩ := r.one
    obtain ⟨p, xs, rfl, hx, t⟩ := s.tup
    exact ⟨p, xs, rfl, .inr hx.sq, fun l hl => k _ _ _ _ (ResOk.lst mok hl t) h⟩
  · obtain ⟨v, rfl, s⟩ := r.one
    obtain ⟨p, xs, rfl, hx, t⟩ := s.fz
    exact ⟨p, xs, rfl, .inl hx.sq, fun l hl => k _ _ _ _ (ResOk.lst mok hl t) h⟩
  · exact h.elim

/-! ### slices -/
def oNone : Ev → (Option Int → Ev → Prop) → XQ → Prop := fun ρ q _ => q none ρ
def intR (ρ : Ev) (r : RV) : Option Int := match rd ρ r with
  | some (.int i) => some i
  | _ => none
def oSome (t : ET) : Ev → (Option Int → Ev → Prop) → XQ → Prop := fun ρ q x => t ρ (fun r ρ1 => some! (intR ρ1 r) fun i => q (some i) ρ1) x
abbrev OT := Ev → (Option Int → Ev → Prop) → XQ → Prop
def liftO (K : PySem.W.Frag) (p0 : Amb) (W : WX) (t : OT) : TO := fun σ H Q => ∃ (M : Addr → Prop) (ρ : Ev) (q : Option Int → Ev → Prop) (x : XQ), Sim K p0 M σ H ρ ∧ t ρ q x ∧
  (∀ o M' H' ρ', Post K p0 M σ H ρ M' σ H' ρ' → Slots ρ ρ' → q o ρ' → Q o H') ∧
  (∀ c M' H' ρ', Post K p0 M σ H ρ M' σ H' ρ' → x c ρ' → W (.ref c) none σ H')
structure DO' (X : Cx) (p0 : Amb) (W : WX) (e : Option Expr) (t : OT) : Prop where
  po : PO X e (liftO X.K p0 W t)
theorem PO.imp {X : Cx} {e : Option Expr} {t u : TO} (h : PO X e t) (i : ∀ σ H Q, u σ H Q → t σ H Q) : PO X e u := ⟨fun pins s σ H Q I hu => h.run pins s σ H Q I (i σ H Q hu)⟩
theorem intR_ok {ρ : Ev} {r : RV} {i : Int} (h : intR ρ r = some i) : rd ρ r = some (.int i) := by
  unfold intR at h
  cases e : rd ρ r with
  | none => simp only [e] at h; cases h
  | some d =>
    simp only [e] at h
    cases d with
    | int j => cases h; rfl
    | _ => cases h
section
variable {X : Cx} {p : Amb} {W : WX} {e : Expr} {lo hi : Option Expr} {te : ET} {tl th : OT} {pos p2 : Pos}
theorem do_none : DO' X p W none oNone := ⟨PO.imp po_none fun σ H Q ⟨M, ρ, q, xq, S, ht, hq, hx⟩ => hq none M H ρ (Post.refl S) (Slots.refl ρ) ht⟩
theorem do_some (h : DE X p W e te) : DO' X p W (some e) (oSome te) := ⟨PO.imp (po_some h.pe) fun σ H Q ⟨M, ρ, q, xq, S, ht, hq, hx⟩ => by
  refine ⟨M, ρ, _, _, S, ht, fun v M1 H1 ρ1 r1 P1 S1 R1 h1 => ?_, hx⟩
  obtain ⟨i, e1, h2⟩ := some!_ok h1
  exact ⟨i, (rd_ok P1.sim R1 (intR_ok e1)).int, hq _ M1 H1 ρ1 P1 S1 h2⟩⟩
def cutD (xs : List D) (lo hi : Option Int) : List D := (xs.drop (HT.sIx xs.length 0 lo)).take (HT.sIx xs.length xs.length hi - HT.sIx xs.length 0 lo)
theorem RepL.cut {K : PySem.W.Frag} {M : Addr → Prop} {H : Hp} {xs : List V} {ds : List D} (r : RepL K M H xs ds) (lo hi : Option Int) : RepL K M H (cutV xs lo hi) (cutD ds lo hi) := by
  unfold cutV cutD
  rw [r.length]
  exact (r.drop _).take _
def fSl (d : D) (lo hi : Option Int) (q : RV → Prop) : Prop := match d with
  | .lst xs => q (.n (.lst (cutD xs lo hi)))
  | .tup xs => q (.d (.tup (cutD xs lo hi)))
  | .str z => z.length ≤ sizeLine ∧ q (.d (.str (cutS z lo hi)))
  | _ => False
def tSl' (te : ET) (tl th : OT) : ET := fun ρ q x => te ρ (fun r ρ1 => tl ρ1 (fun lo ρ2 => th ρ2 (fun hi ρ3 => f1 (fun d k => fSl d lo hi k) (rd ρ3 r) fun z => q z ρ3) x) x) x
def rSlAll (K : PySem.W.Frag) : V → Option Int → Option Int → Hp → VK → Prop := fun x lo hi H Q => rSlL K x lo hi H Q ∨ rSlA K x lo hi H Q ∨ rSlS x lo hi H Q
theorem sl_all {X : Cx} : SlR X (rSlAll X.K) := sl_list.or (sl_tupA.or sl_str)
theorem cutV_whole (xs : List V) (lo hi : Option Int) (h : HT.sIx xs.length 0 lo = 0 ∧ HT.sIx xs.length xs.length hi = xs.length) : cutV xs lo hi = xs := by
  unfold cutV
  rw [h.1, h.2, List.drop_zero, Nat.sub_zero, List.take_length]
theorem de_slice (he : DE X p W e te) (hl : DO' X p W lo tl) (hu : DO' X p W hi th) : DE X p W (.Subscript e (.Slice lo hi none p2) pos) (tSl' te tl th) := ⟨PE.imp (pe_slice sl_all he.pe hl.po hu.po) fun σ H Q ⟨M, ρ, q, xq, S, ht, hq, hx⟩ => by
  refine ⟨M, ρ, _, _, S, ht, fun v M1 H1 ρ1 r1 P1 S1 R1 h1 => ?_, hx⟩
  refine ⟨M1, ρ1, _, _, P1.sim, h1, fun lo M2 H2 ρ2 P2 S2 h2 => ?_, fun c M2 H2 ρ2 P2 h2 => hx c M2 H2 ρ2 (P1.trans S P2) h2⟩
  have P2' := P1.trans S P2
  refine ⟨M2, ρ2, _, _, P2.sim, h2, fun hi M3 H3 ρ3 P3 S3 h3 => ?_, fun c M3 H3 ρ3 P3 h3 => hx c M3 H3 ρ3 (P2'.trans S P3) h3⟩
  have P3' := P2'.trans S P3
  obtain ⟨d, e1, h4⟩ := f1_ok h3
  have rc := rd_ok P3.sim ((R1.post P1.sim P2 S2).post P2.sim P3 S3) e1
  have k : ∀ w M4 H4 z, ResOk X.K M3 H3 M4 H4 w z → q z ρ3 → Q w H4 := fun w M4 H4 z ok hz => by
    obtain ⟨P4, R4⟩ := ok.fin S P3'
    exact hq w M4 H4 ρ3 z P4 ((S1.trans S2).trans S3) R4 hz
  cases d with
  | lst ds =>
    obtain ⟨a, xs, rfl, hx, r⟩ := rc.lst
    exact .inl ⟨a, xs, rfl, SqL.of hx, fun l hp => k _ _ _ _ (ResOk.lst P3.sim.mok hp (r.cut lo hi)) h4⟩
  | tup ds =>
    obtain ⟨a, xs, rfl, hx, r⟩ := rc.tup
    refine .inr (.inl ⟨a, xs, rfl, hx.sq, fun hw => ?_, fun _ l hp => k _ _ _ _ (ResOk.tup P3.sim.mok hp (r.cut lo hi)) h4⟩)
    have rr := r.cut lo hi
    rw [cutV_whole xs lo hi hw] at rr
    exact k _ M3 H3 _ (ResOk.same P3.sim.mok (.tup hx rr)) h4
  | str z =>
    rw [rc.str]
    exact .inr (.inr ⟨z, rfl, h4.1, k _ M3 H3 _ (ResOk.same P3.sim.mok (.str _)) h4.2⟩)
  | _ => exact h4.elim⟩
end
end DL

set_option Elab.async false
set_option linter.all false
set_option maxRecDepth 100000
set_option maxHeartbeats 4000000
namespace DL
open PySem PySem.Spec PyProof.Rows L2

section
variable {K : PySem.W.Frag} {p0 : Amb} {M0 M : Addr → Prop} {σ0 σ : L2.St} {H0 H : Hp} {ρ0 ρ ρ' : Ev} {v : V} {i : Nat} {x : D} {r : RV}
theorem settleN_ok (S0 : Sim K p0 M0 σ0 H0 ρ0) (P : Post K p0 M0 σ0 H0 ρ0 M σ H ρ) (ok : RVok K M σ ρ H0 H v r) (e : settle ρ r = some (x, ρ')) : ∃ M', Post K p0 M0 σ0 H0 ρ0 M' σ H ρ' ∧ Slots ρ ρ' ∧ Rep K M' H v x := by
  obtain ⟨M1, P1, R1⟩ := cool_ok S0 P ok
  have e1 : settle ρ (cool r) = some (x, ρ') := by
    cases r with
    | d y => exact e
    | n y => exact e
    | o i => exact e
  obtain ⟨M2, P2, S2, R2⟩ := settle_ok P1.sim R1 (cool_n r) e1
  exact ⟨M2, P1.trans S0 P2, S2, R2⟩

/-! ### slots stored -/
theorem set_get {σ : L2.St} {i j : Nat} {s t : Option V} (h : (σ.set i s)[j]? = some t) : (j = i ∧ t = s) ∨ (j ≠ i ∧ σ[j]? = some t) := by
  by_cases e : j = i
  · subst e
    left
    refine ⟨rfl, ?_⟩
    by_cases hl : j < σ.length
    · rw [List.getElem?_set_self hl] at h
      exact (Option.some.inj h).symm
    · rw [List.getElem?_eq_none (by rw [List.length_set]; omega)] at h
      cases h
  · right
    rw [List.getElem?_set_ne (Ne.symm e)] at h
    exact ⟨e, h⟩
theorem set_self {σ : L2.St} {ρ : Ev} {i : Nat} {s : Option V} {t u : Sl} (len : ρ.length = σ.length) (h : (ρ.set i t)[i]? = some u) : (σ.set i s)[i]? = some s := by
  have : i < (ρ.set i t).length := (List.getElem?_eq_some_iff.mp h).1
  rw [List.length_set, len] at this
  exact List.getElem?_set_self this
theorem set_other {σ : L2.St} {i j : Nat} {s : Option V} {t : Option V} (hj : j ≠ i) (h : σ[j]? = some t) : (σ.set i s)[j]? = some t := by
  rw [List.getElem?_set_ne (Ne.symm hj)]
  exact h
theorem store_va (S : Sim K p0 M σ H ρ) (R : Rep K M H v x) : Post K p0 M σ H ρ M (σ.set i (some v)) H (ρ.set i (.va x)) := by
  have old : ∀ {j : Nat} {d : D} {q : Addr}, ((ρ.set i (.va x))[j]? = some (.ow d) ∨ (ρ.set i (.va x))[j]? = some (.io d)) → (σ.set i (some v))[j]? = some (some (.ref q)) → (ρ[j]? = some (.ow d) ∨ ρ[j]? = some (.io d)) ∧ σ[j]? = some (some (.ref q)) ∧ j ≠ i := fun {j d q} h h2 => by
    have z : (ρ[j]? = some (.ow d) ∨ ρ[j]? = some (.io d)) ∧ j ≠ i := by
      rcases h with h | h
      · rcases get_set h with ⟨_, e⟩ | ⟨hj, e⟩
        · cases e
        · exact ⟨.inl e, hj⟩
      · rcases get_set h with ⟨_, e⟩ | ⟨hj, e⟩
        · cases e
        · exact ⟨.inr e, hj⟩
    refine ⟨z.1, ?_, z.2⟩
    rcases set_get h2 with ⟨e, _⟩ | ⟨_, e⟩
    · exact absurd e z.2
    · exact e
  refine ⟨⟨by rw [List.length_set, List.length_set]; exact S.len, fun j d e => ?_, fun j d e => ?_, fun j d e => ?_, fun j l d e q h1 h2 h3 h4 => ?_, S.mok, S.p0k, S.tabs⟩, Step.refl, fun a ⟨j, d, h1, h2⟩ => .inl ⟨j, d, (old h1 h2).1, (old h1 h2).2.1⟩⟩
  · rcases get_set e with ⟨e1, e2⟩ | ⟨hj, e'⟩
    · cases e2
      subst e1
      exact ⟨v, set_self S.len e, R⟩
    · obtain ⟨u, e1, r⟩ := S.va j d e'
      exact ⟨u, set_other hj e1, r⟩
  · rcases get_set e with ⟨e1, e2⟩ | ⟨hj, e'⟩
    · cases e2
    · obtain ⟨q, e1, m, o, n⟩ := S.ow j d e'
      exact ⟨q, set_other hj e1, m, o, n⟩
  · rcases get_set e with ⟨e1, e2⟩ | ⟨hj, e'⟩
    · cases e2
    · obtain ⟨q, e1, m, o, n⟩ := S.io j d e'
      exact ⟨q, set_other hj e1, m, o, n⟩
  · exact S.inj j l d e q (old h1 h3).1 (old h2 h4).1 (old h1 h3).2.1 (old h2 h4).2.1
theorem store_ow (S : Sim K p0 M σ H ρ) {p : Addr} (m : M p) (nw : ¬ Wr σ ρ p) (o : Own K M H p x) (n0 : p0.io ≠ some p) (hp : ∀ H00 : Hp, H00 p = none → True) :
    Sim K p0 M (σ.set i (some (.ref p))) H (ρ.set i (.ow x)) ∧ ∀ a, Wr (σ.set i (some (.ref p))) (ρ.set i (.ow x)) a → Wr σ ρ a ∨ a = p := by
  have old : ∀ {j : Nat} {d : D} {q : Addr}, ((ρ.set i (.ow x))[j]? = some (.ow d) ∨ (ρ.set i (.ow x))[j]? = some (.io d)) → (σ.set i (some (.ref p)))[j]? = some (some (.ref q)) → ((ρ[j]? = some (.ow d) ∨ ρ[j]? = some (.io d)) ∧ σ[j]? = some (some (.ref q)) ∧ j ≠ i) ∨ (j = i ∧ q = p) := fun {j d q} h h2 => by
    rcases set_get h2 with ⟨e, e3⟩ | ⟨hj, e⟩
    · cases e3
      exact .inr ⟨e, rfl⟩
    · left
      refine ⟨?_, e, hj⟩
      rcases h with h | h
      · rcases get_set h with ⟨e, _⟩ | ⟨_, e⟩
        · exact absurd e hj
        · exact .inl e
      · rcases get_set h with ⟨e, _⟩ | ⟨_, e⟩
        · exact absurd e hj
        · exact .inr e
  refine ⟨⟨by rw [List.length_set, List.length_set]; exact S.len, fun j d e => ?_, fun j d e => ?_, fun j d e => ?_, fun j l d e q h1 h2 h3 h4 => ?_, S.mok, S.p0k, S.tabs⟩, fun a ⟨j, d, h1, h2⟩ => ?_⟩
  · rcases get_set e with ⟨e1, e2⟩ | ⟨hj, e'⟩
    · cases e2
    · obtain ⟨u, e1, r⟩ := S.va j d e'
      exact ⟨u, set_other hj e1, r⟩
  · rcases get_set e with ⟨e1, e2⟩ | ⟨hj, e'⟩
    · cases e2
      subst e1
      exact ⟨p, set_self S.len e, m, o, n0⟩
    · obtain ⟨q, e1, m, o, n⟩ := S.ow j d e'
      exact ⟨q, set_other hj e1, m, o, n⟩
  · rcases get_set e with ⟨e1, e2⟩ | ⟨hj, e'⟩
    · cases e2
    · obtain ⟨q, e1, m, o, n⟩ := S.io j d e'
      exact ⟨q, set_other hj e1, m, o, n⟩
  · rcases old h1 h3 with ⟨a1, a2, _⟩ | ⟨a1, a2⟩
    · rcases old h2 h4 with ⟨b1, b2, _⟩ | ⟨b1, b2⟩
      · exact S.inj j l d e q a1 b1 a2 b2
      · subst b2
        exact absurd ⟨j, d, a1, a2⟩ nw
    · rcases old h2 h4 with ⟨b1, b2, _⟩ | ⟨b1, b2⟩
      · subst a2
        exact absurd ⟨l, e, b1, b2⟩ nw
      · rw [a1, b1]
  · rcases old h1 h2 with ⟨a1, a2, _⟩ | ⟨a1, a2⟩
    · exact .inl ⟨j, d, a1, a2⟩
    · exact .inr a2
/-- a result stored in a slot -/
def storeS (i j : Nat) (ρ : Ev) : Option Sl → Option Ev
  | some (.va x) => some (ρ.set i (.va x))
  | some (.ow x) => some ((ρ.set j (.va x)).set i (.va x))
  | _ => none
def store (i : Nat) (ρ : Ev) : RV → Option Ev
  | .d x => some (ρ.set i (.va x))
  | .n x => some (ρ.set i (.ow x))
  | .o j => storeS i j ρ ρ[j]?
theorem store_ok (S0 : Sim K p0 M0 σ0 H0 ρ0) (P : Post K p0 M0 σ0 H0 ρ0 M σ H ρ) (ok : RVok K M σ ρ H0 H v r) (e : store i ρ r = some ρ') : ∃ M', Post K p0 M0 σ0 H0 ρ0 M' (σ.set i (some v)) H ρ' := by
  cases r with
  | d x =>
    cases e
    exact ⟨M, P.trans S0 (store_va P.sim ok)⟩
  | n x =>
    cases e
    obtain ⟨p, rfl, m, nw, f, o⟩ := ok
    obtain ⟨S1, w1⟩ := store_ow (i := i) P.sim m nw o (fun z => S0.p0k p z f) (fun _ _ => trivial)
    refine ⟨M, S1, P.step, fun a h => ?_⟩
    rcases w1 a h with h | h
    · exact P.wr a h
    · exact .inr (h ▸ f)
  | o j =>
    have e' : storeS i j ρ ρ[j]? = some ρ' := e
    have key : ∀ {x ρ1}, settle ρ (.o j) = some (x, ρ1) → ρ' = ρ1.set i (.va x) → ∃ M', Post K p0 M0 σ0 H0 ρ0 M' (σ.set i (some v)) H ρ' := fun {x ρ1} h1 h2 => by
      obtain ⟨M2, P2, S2, R2⟩ := settleN_ok S0 P ok h1
      rw [h2]
      exact ⟨M2, P2.trans S0 (store_va P2.sim R2)⟩
    cases hy : ρ[j]? with
    | none => rw [hy] at e'; cases e'
    | some s =>
      rw [hy] at e'
      cases s with
      | va y =>
        cases e'
        exact key (x := y) (ρ1 := ρ) (by show settleS j ρ ρ[j]? = _; rw [hy]; rfl) rfl
      | ow y =>
        cases e'
        exact key (x := y) (ρ1 := ρ.set j (.va y)) (by show settleS j ρ ρ[j]? = _; rw [hy]; rfl) rfl
      | _ => cases e'

theorem upd_cold {H : Hp} {M : Addr → Prop} {p a : Addr} {o : HO} (mp : M p) (n : ¬ M a) : upd H p o a = H a := upd_ne fun z => n (by rw [z]; exact mp)
/-! ### a slot's own thing changed -/
def ownS : Option Sl → Option D
  | some (.ow x) => some x
  | some (.io x) => some x
  | _ => none
def putS (i : Nat) (x : D) (ρ : Ev) : Option Sl → Ev
  | some (.ow _) => ρ.set i (.ow x)
  | some (.io _) => ρ.set i (.io x)
  | _ => ρ
theorem own_at (S : Sim K p0 M σ H ρ) (h : ownS ρ[i]? = some x) : ∃ p, σ[i]? = some (some (.ref p)) ∧ M p ∧ Own K M H p x ∧ Wr σ ρ p := by
  cases hy : ρ[i]? with
  | none => rw [hy] at h; cases h
  | some s =>
    rw [hy] at h
    cases s with
    | ow y =>
      cases h
      obtain ⟨p, e, m, o, _⟩ := S.ow i _ hy
      exact ⟨p, e, m, o, i, _, .inl hy, e⟩
    | io y =>
      cases h
      obtain ⟨p, e, m, o, _⟩ := S.io i _ hy
      exact ⟨p, e, m, o, i, _, .inr hy, e⟩
    | _ => cases h
theorem put_kind {j : Nat} {s : Sl} {y : D} (h : ownS ρ[i]? = some x) (e : (putS i y ρ ρ[i]?)[j]? = some s) : (j ≠ i ∧ ρ[j]? = some s) ∨ (j = i ∧ ((∃ z, ρ[i]? = some (.ow z) ∧ s = .ow y) ∨ ∃ z, ρ[i]? = some (.io z) ∧ s = .io y)) := by
  cases hy : ρ[i]? with
  | none => rw [hy] at h; cases h
  | some t =>
    rw [hy] at h e
    cases t with
    | ow z =>
      rcases get_set (show (ρ.set i (.ow y))[j]? = some s from e) with ⟨e1, e2⟩ | ⟨e1, e2⟩
      · exact .inr ⟨e1, .inl ⟨z, rfl, e2⟩⟩
      · exact .inl ⟨e1, e2⟩
    | io z =>
      rcases get_set (show (ρ.set i (.io y))[j]? = some s from e) with ⟨e1, e2⟩ | ⟨e1, e2⟩
      · exact .inr ⟨e1, .inr ⟨z, rfl, e2⟩⟩
      · exact .inl ⟨e1, e2⟩
    | _ => cases h
theorem put_wr {y : D} (h : ownS ρ[i]? = some x) {a : Addr} (w : Wr σ (putS i y ρ ρ[i]?) a) : Wr σ ρ a := by
  obtain ⟨j, d, h1, h2⟩ := w
  rcases h1 with h1 | h1
  · rcases put_kind h h1 with ⟨_, e⟩ | ⟨rfl, ⟨z, e, _⟩ | ⟨z, e, _⟩⟩
    · exact ⟨j, d, .inl e, h2⟩
    · exact ⟨j, z, .inl e, h2⟩
    · exact ⟨j, z, .inr e, h2⟩
  · rcases put_kind h h1 with ⟨_, e⟩ | ⟨rfl, ⟨z, e, _⟩ | ⟨z, e, _⟩⟩
    · exact ⟨j, d, .inr e, h2⟩
    · exact ⟨j, z, .inl e, h2⟩
    · exact ⟨j, z, .inr e, h2⟩
theorem mut_gen {M' : Addr → Prop} {H' : Hp} (S : Sim K p0 M σ H ρ) {p : Addr} {y : D} (h : ownS ρ[i]? = some x) (hs : σ[i]? = some (some (.ref p))) (st : Step M (fun a => a = p) H M' H') (mok : ∀ a, M' a → H' a ≠ none) (mp' : M' p) (hy : Own K M' H' p y) : Post K p0 M σ H ρ M' σ H' (putS i y ρ ρ[i]?) := by
  obtain ⟨q, e, mp, op, wp⟩ := own_at S h
  rw [hs] at e; cases e
  have k : Keep M H M' H' := st.keep fun a z => by rw [z]; exact mp
  have len : (putS i y ρ ρ[i]?).length = ρ.length := by
    unfold putS
    split
    · exact List.length_set
    · exact List.length_set
    · rfl
  have old : ∀ {j : Nat} {d : D}, ((putS i y ρ ρ[i]?)[j]? = some (.ow d) ∨ (putS i y ρ ρ[i]?)[j]? = some (.io d)) → ∃ d', (ρ[j]? = some (.ow d') ∨ ρ[j]? = some (.io d')) := fun {j d} h1 => by
    rcases h1 with h1 | h1
    · rcases put_kind h h1 with ⟨_, e⟩ | ⟨rfl, ⟨z, e, _⟩ | ⟨z, e, _⟩⟩
      · exact ⟨d, .inl e⟩
      · exact ⟨z, .inl e⟩
      · exact ⟨z, .inr e⟩
    · rcases put_kind h h1 with ⟨_, e⟩ | ⟨rfl, ⟨z, e, _⟩ | ⟨z, e, _⟩⟩
      · exact ⟨d, .inr e⟩
      · exact ⟨z, .inl e⟩
      · exact ⟨z, .inr e⟩
  have hself : ∃ d', (ρ[i]? = some (.ow d') ∨ ρ[i]? = some (.io d')) := by
    cases hy : ρ[i]? with
    | none => rw [hy] at h; cases h
    | some t =>
      cases t with
      | ow z => exact ⟨z, .inl rfl⟩
      | io z => exact ⟨z, .inr rfl⟩
      | _ => rw [hy] at h; cases h
  have ne : ∀ {j : Nat} {d : D} {q : Addr}, j ≠ i → (ρ[j]? = some (.ow d) ∨ ρ[j]? = some (.io d)) → σ[j]? = some (some (.ref q)) → q ≠ p := fun {j d q} hj h1 h2 e => by
    subst e
    obtain ⟨d', hd⟩ := hself
    exact hj (S.inj j i d d' q h1 hd h2 hs)
  refine ⟨⟨by rw [len]; exact S.len, fun j d e => ?_, fun j d e => ?_, fun j d e => ?_, fun j l d e q h1 h2 h3 h4 => ?_, mok, fun q z => st.dom q (S.p0k q z), fun q z => st.tb q (S.tabs q z)⟩, st.weak fun a z => by rw [z]; exact wp, fun a ⟨j, d, h1, h2⟩ => ?_⟩
  · rcases put_kind h e with ⟨hj, e'⟩ | ⟨_, ⟨z, _, e'⟩ | ⟨z, _, e'⟩⟩
    · obtain ⟨u, e1, r⟩ := S.va j d e'
      exact ⟨u, e1, r.keep k⟩
    · cases e'
    · cases e'
  · rcases put_kind h e with ⟨hj, e'⟩ | ⟨rfl, ⟨z, e1, e'⟩ | ⟨z, _, e'⟩⟩
    · obtain ⟨q, e1, m, oo, n⟩ := S.ow j d e'
      have nq := ne hj (.inl e') e1
      exact ⟨q, e1, st.kp q m nq, oo.keep k fun u eu t => st.fr q u eu nq t, n⟩
    · cases e'
      obtain ⟨q, e2, m, oo, n⟩ := S.ow _ _ e1
      rw [hs] at e2; cases e2
      exact ⟨p, hs, mp', hy, n⟩
    · cases e'
  · rcases put_kind h e with ⟨hj, e'⟩ | ⟨rfl, ⟨z, e1, e'⟩ | ⟨z, e1, e'⟩⟩
    · obtain ⟨q, e1, m, oo, n⟩ := S.io j d e'
      have nq := ne hj (.inr e') e1
      exact ⟨q, e1, st.kp q m nq, oo.keep k fun u eu t => st.fr q u eu nq t, n⟩
    · cases e'
    · cases e'
      obtain ⟨q, e2, m, oo, n⟩ := S.io _ _ e1
      rw [hs] at e2; cases e2
      exact ⟨p, hs, mp', hy, n⟩
  · obtain ⟨d1, o1⟩ := old h1
    obtain ⟨d2, o2⟩ := old h2
    exact S.inj j l d1 d2 q o1 o2 h3 h4
  · obtain ⟨d1, o1⟩ := old h1
    exact .inl ⟨j, d1, o1, h2⟩
theorem mut_ok (S : Sim K p0 M σ H ρ) {p : Addr} {o : HO} {y : D} (h : ownS ρ[i]? = some x) (hs : σ[i]? = some (some (.ref p))) (hy : Own K M (upd H p o) p y) : Post K p0 M σ H ρ M σ (upd H p o) (putS i y ρ ρ[i]?) := by
  obtain ⟨q, e, mp, op, wp⟩ := own_at S h
  rw [hs] at e; cases e
  have dom : ∀ a, H a ≠ none → upd H p o a ≠ none := fun a ha => by
    by_cases e : a = p
    · rw [e, upd_same]; exact fun z => nomatch z
    · rw [upd_ne e]; exact ha
  exact mut_gen S h hs ⟨fun a u e n _ => by rw [upd_ne n]; exact e, fun a z => .inl z, fun a z _ => z, dom, tab_upd op.nt⟩ (fun a z => dom a (S.mok a z)) mp hy
theorem put_slots (_ : ownS ρ[i]? = some x) (y : D) : Slots ρ (putS i y ρ ρ[i]?) := trivial
end

/-! ### methods of a slot's own list -/
def ownL (ρ : Ev) : RV → Option (Nat × List D)
  | .o i => match ownS ρ[i]? with
    | some (.lst xs) => some (i, xs)
    | _ => none
  | _ => none
theorem ownL_ok {ρ : Ev} {r : RV} {i : Nat} {xs : List D} (h : ownL ρ r = some (i, xs)) : r = .o i ∧ ownS ρ[i]? = some (.lst xs) := by
  cases r with
  | o j =>
    unfold ownL at h
    simp only at h
    split at h
    · rename_i ys e
      cases h
      exact ⟨rfl, e⟩
    · cases h
  | _ => cases h
def put (i : Nat) (x : D) (ρ : Ev) : Ev := putS i x ρ ρ[i]?
def tAppend (to : ET) (ta : AT) : ET := fun ρ q x => to ρ (fun r ρ1 => some! (ownL ρ1 r) fun _ => ta ρ1 (fun rs ρ2 => some! (settleL ρ2 rs) fun z => match z.1 with
  | [y] => some! (ownL z.2 r) fun a => a.2.length < sizeLine ∧ q (.d .non) (put a.1 (.lst (a.2 ++ [y])) z.2)
  | _ => False) x) x
def tPop (to : ET) : ET := fun ρ q x => to ρ (fun r ρ1 => some! (ownL ρ1 r) fun a => some! a.2[a.2.length - 1]? fun y => q (.d y) (put a.1 (.lst a.2.dropLast) ρ1)) x
section
variable {X : Cx} {p : Amb} {W : WX} {o e : Expr} {es : List Expr} {to : ET} {t : AT} {apos cpos : Pos}
theorem de_append (ho : DE X p W o to) (ha : DA X p W (e :: es) t)
    (hbase : attributeBase o "append" X.env (eval o X.env) = eval o X.env := by rfl)
    (hfew : ((backTo cpos (starEach (e :: es) X.env)).all (fun x => !x.1) && (backToKw cpos (keywordEach [] X.env)).all (fun x => x.1.isSome)
      && decide ((e :: es).length + ([] : List Keyword).length + (if ([] : List Keyword).isEmpty then 0 else 1) < 30)) = true := by rfl)
    (hline : (apos.endLine == cpos.line) = true := by rfl) (hs : starEach (e :: es) X.env = (false, eval e X.env) :: starEach es X.env := by rfl) (hplain : (backTo cpos (starEach es X.env)).any (·.1) = false := by rfl) :
    DE X p W (.Call (.Attribute o "append" apos) (e :: es) [] cpos) (tAppend to t) :=
  ⟨PE.imp (pe_bm PySem.F.plainAttrs_list PySem.F.slot_list_append PySem.F.type_list_append mt_append ho.pe ha.pa hbase hfew hline hs hplain) fun σ H Q ⟨M, ρ, q, xq, S, ht, hq, hx⟩ => by
    refine ⟨M, ρ, _, _, S, ht, fun v M1 H1 ρ1 r1 P1 S1 R1 h1 => ?_, hx⟩
    obtain ⟨⟨i, xs⟩, e1, h2⟩ := some!_ok h1
    obtain ⟨rfl, eo⟩ := ownL_ok e1
    obtain ⟨a, hs1, m1, o1, w1⟩ := own_at P1.sim eo
    obtain ⟨vs0, hv0, r0⟩ := o1
    obtain rfl : v = .ref a := by
      have z := R1.1
      rw [hs1] at z
      cases z
      rfl
    refine ⟨.inl ⟨rfl, vs0, SqL.of hv0⟩, M1, ρ1, _, _, P1.sim, h2, fun vs M2 H2 ρ2 rs P2 S2 R2 h3 => ?_, fun c M2 H2 ρ2 P2 h3 => hx c M2 H2 ρ2 (P1.trans S P2) h3⟩
    obtain ⟨⟨ds, ρ3⟩, e2, h4⟩ := some!_ok h3
    obtain ⟨M3, P3, S3, R3⟩ := settleL_ok P2.sim R2 e2
    simp only at h4
    split at h4
    · rename_i y
      obtain ⟨⟨i', xs2⟩, e3, hl, h5⟩ := some!_ok h4
      obtain ⟨e4, eo2⟩ := ownL_ok e3
      cases e4
      obtain ⟨a2, hs2, m2, ⟨vs2, hv2, r2⟩, w2⟩ := own_at P3.sim eo2
      rw [hs1] at hs2
      cases hs2
      cases R3 with
      | cons ry rn =>
        cases rn
        rename_i u
        refine ⟨a, vs2, u, rfl, rfl, hv2, by rw [r2.length]; exact hl, ?_⟩
        have k : Keep M3 H2 M3 (upd H2 a (.lst (vs2 ++ [u]))) := fun b w e n _ => ⟨by rw [upd_cold m2 n]; exact e, n⟩
        have P4 := mut_ok P3.sim eo2 hs1 (o := .lst (vs2 ++ [u])) (y := .lst (xs2 ++ [y])) ⟨_, upd_same, (r2.keep k).append (.cons (ry.keep k) .nil)⟩
        exact hq .non M3 _ _ (.d .non) (((P1.trans S P2).trans S P3).trans S P4) (((S1.trans S2).trans S3).trans (put_slots eo2 _)) (RVok.dd .non) h5
    · exact h4.elim⟩
theorem de_pop (ho : DE X p W o to) (hbase : attributeBase o "pop" X.env (eval o X.env) = eval o X.env := by rfl) (hline : (apos.endLine == cpos.line) = true := by rfl) :
    DE X p W (.Call (.Attribute o "pop" apos) [] [] cpos) (tPop to) :=
  ⟨PE.imp (pe_bm0 PySem.F.plainAttrs_list PySem.F.slot_list_pop PySem.F.type_list_pop mt_pop ho.pe hbase hline) fun σ H Q ⟨M, ρ, q, xq, S, ht, hq, hx⟩ => by
    refine ⟨M, ρ, _, _, S, ht, fun v M1 H1 ρ1 r1 P1 S1 R1 h1 => ?_, hx⟩
    obtain ⟨⟨i, xs⟩, e1, h2⟩ := some!_ok h1
    obtain ⟨rfl, eo⟩ := ownL_ok e1
    obtain ⟨a, hs1, m1, ⟨vs0, hv0, r0⟩, w1⟩ := own_at P1.sim eo
    obtain rfl : v = .ref a := by
      have z := R1.1
      rw [hs1] at z
      cases z
      rfl
    obtain ⟨y, ey, h3⟩ := some!_ok h2
    have ey : xs[xs.length - 1]? = some y := ey
    obtain ⟨u, eu, ru⟩ := r0.get ey
    refine ⟨.inl ⟨rfl, vs0, SqL.of hv0⟩, a, vs0, u, rfl, rfl, hv0, by rw [r0.length]; exact eu, ?_⟩
    have k : Keep M1 H1 M1 (upd H1 a (.lst vs0.dropLast)) := fun b w e n _ => ⟨by rw [upd_cold m1 n]; exact e, n⟩
    have P4 := mut_ok P1.sim eo hs1 (o := .lst vs0.dropLast) (y := .lst xs.dropLast) ⟨_, upd_same, (r0.keep k).dropLast⟩
    exact hq u M1 _ _ (.d y) (P1.trans S P4) (S1.trans (put_slots eo _)) (RVok.dd (ru.keep k)) h3⟩
end
end DL

set_option Elab.async false
set_option linter.all false
set_option maxRecDepth 100000
set_option maxHeartbeats 4000000
namespace DL
open PySem PySem.Spec PyProof.Rows L2

structure SE where
  nx : Ev → Prop
  rt : RV → Ev → Prop
  bk : Ev → Prop
  ct : Ev → Prop
  xc : XQ
abbrev ST := SE → Ev → Prop
/-- what a def gives back -/
def RetOk (K : PySem.W.Frag) (p0 : Amb) (M' : Addr → Prop) (σ : L2.St) (H : Hp) (ρ : Ev) (H' : Hp) (v : V) : RV → Prop
  | .d x => Rep K M' H' v x
  | .n x => ∃ p, v = .ref p ∧ M' p ∧ Own K M' H' p x ∧ (H p = none ∨ Wr σ ρ p) ∧ p0.io ≠ some p
  | .o _ => False
theorem RetOk.dd {K : PySem.W.Frag} {p0 : Amb} {M' : Addr → Prop} {σ : L2.St} {H : Hp} {ρ : Ev} {H' : Hp} {v : V} {x : D} (h : Rep K M' H' v x) : RetOk K p0 M' σ H ρ H' v (.d x) := h
structure Lk (K : PySem.W.Frag) (p0 : Amb) (W : WX) (M : Addr → Prop) (σ : L2.St) (H : Hp) (ρ : Ev) (e : SE) (D : Ends) : Prop where
  nx : ∀ M' σ' H' ρ', Post K p0 M σ H ρ M' σ' H' ρ' → e.nx ρ' → D.nx σ' H'
  bk : ∀ M' σ' H' ρ', Post K p0 M σ H ρ M' σ' H' ρ' → e.bk ρ' → D.bk σ' H'
  ct : ∀ M' σ' H' ρ', Post K p0 M σ H ρ M' σ' H' ρ' → e.ct ρ' → D.ct σ' H'
  rt : ∀ v M' σ' H' ρ' r, Post K p0 M σ H ρ M' σ' H' ρ' → RetOk K p0 M' σ H ρ H' v r → e.rt r ρ' → D.rt v H'
  xc : ∀ c M' σ' H' ρ', Post K p0 M σ H ρ M' σ' H' ρ' → e.xc c ρ' → W (.ref c) none σ' H'
def liftS (K : PySem.W.Frag) (p0 : Amb) (W : WX) (t : ST) : TS := fun D σ H => ∃ (M : Addr → Prop) (ρ : Ev) (e : SE), Sim K p0 M σ H ρ ∧ t e ρ ∧ Lk K p0 W M σ H ρ e D
structure DS (X : Cx) (p0 : Amb) (W : WX) (st : Stmt) (t : ST) : Prop where
  ps : PS X st (liftS X.K p0 W t)
structure DSs (X : Cx) (p0 : Amb) (W : WX) (st : List Stmt) (t : ST) : Prop where
  pss : PSs X st (liftS X.K p0 W t)
section
variable {K : PySem.W.Frag} {p0 : Amb} {W : WX} {M M1 : Addr → Prop} {σ σ1 : L2.St} {H H1 : Hp} {ρ ρ1 : Ev} {e : SE} {D : Ends}
theorem RetOk.back (P : Post K p0 M σ H ρ M1 σ1 H1 ρ1) {M' : Addr → Prop} {H' : Hp} {v : V} {r : RV} (h : RetOk K p0 M' σ1 H1 ρ1 H' v r) : RetOk K p0 M' σ H ρ H' v r := by
  cases r with
  | d x => exact h
  | n x =>
    obtain ⟨p, e, m, o, w, n⟩ := h
    refine ⟨p, e, m, o, ?_, n⟩
    rcases w with w | w
    · exact .inl (dom_back P.step.dom w)
    · exact (P.wr p w).symm
  | o i => exact h
theorem Lk.after (S : Sim K p0 M σ H ρ) (l : Lk K p0 W M σ H ρ e D) (P : Post K p0 M σ H ρ M1 σ1 H1 ρ1) : Lk K p0 W M1 σ1 H1 ρ1 e D :=
  ⟨fun M' σ' H' ρ' P' h => l.nx M' σ' H' ρ' (P.trans S P') h, fun M' σ' H' ρ' P' h => l.bk M' σ' H' ρ' (P.trans S P') h, fun M' σ' H' ρ' P' h => l.ct M' σ' H' ρ' (P.trans S P') h,
   fun v M' σ' H' ρ' r P' R h => l.rt v M' σ' H' ρ' r (P.trans S P') (R.back P) h, fun c M' σ' H' ρ' P' h => l.xc c M' σ' H' ρ' (P.trans S P') h⟩
/-- another wish for what follows -/
theorem Lk.to (S : Sim K p0 M σ H ρ) (l : Lk K p0 W M σ H ρ e D) {n : Ev → Prop} {N : L2.St → Hp → Prop} (h : ∀ M' σ' H' ρ', Post K p0 M σ H ρ M' σ' H' ρ' → n ρ' → N σ' H') : Lk K p0 W M σ H ρ { e with nx := n } { D with nx := N } :=
  ⟨h, l.bk, l.ct, l.rt, l.xc⟩
end
section
variable {X : Cx} {p : Amb} {W : WX} {st : Stmt} {rest : List Stmt} {t u : ST} {e : Expr} {te : ET} {pos : Pos}
def sNext : ST := fun e ρ => e.nx ρ
def sSeq (t u : ST) : ST := fun e ρ => t { e with nx := u e } ρ
theorem dss_nil : DSs X p W [] sNext := ⟨PSs.imp pss_nil fun D σ H ⟨M, ρ, e, S, h, l⟩ => l.nx M σ H ρ (Post.refl S) h⟩
theorem dss_cons (h1 : DS X p W st t) (h2 : DSs X p W rest u) : DSs X p W (st :: rest) (sSeq t u) := ⟨PSs.imp (pss_cons h1.ps h2.pss) fun D σ H ⟨M, ρ, e, S, h, l⟩ =>
  ⟨M, ρ, _, S, h, l.to S fun M' σ' H' ρ' P h' => ⟨M', ρ', e, P.sim, h', l.after S P⟩⟩⟩
theorem dss_one (h1 : DS X p W st t) : DSs X p W [st] t := ⟨pss_one h1.ps⟩
theorem ds_pass : DS X p W (.Pass pos) sNext := ⟨PS.imp ps_pass fun D σ H ⟨M, ρ, e, S, h, l⟩ => l.nx M σ H ρ (Post.refl S) h⟩
def sBreak : ST := fun e ρ => e.bk ρ
def sCont : ST := fun e ρ => e.ct ρ
theorem ds_break : DS X p W (.Break pos) sBreak := ⟨PS.imp ps_break fun D σ H ⟨M, ρ, e, S, h, l⟩ => l.bk M σ H ρ (Post.refl S) h⟩
theorem ds_continue : DS X p W (.Continue pos) sCont := ⟨PS.imp ps_continue fun D σ H ⟨M, ρ, e, S, h, l⟩ => l.ct M σ H ρ (Post.refl S) h⟩
def sExpr (te : ET) : ST := fun e ρ => te ρ (fun _ ρ1 => e.nx ρ1) e.xc
theorem ds_expr (he : DE X p W e te) (hs : swapsWith e none pos.line X.env = pure false := by rfl) : DS X p W (.Expr e pos) (sExpr te) := ⟨PS.imp (ps_expr he.pe hs) fun D σ H ⟨M, ρ, e, S, h, l⟩ =>
  ⟨M, ρ, _, _, S, h, fun v M1 H1 ρ1 r P1 _ _ h1 => l.nx M1 σ H1 ρ1 P1 h1, fun c M1 H1 ρ1 P1 h1 => l.xc c M1 σ H1 ρ1 P1 h1⟩⟩
def retS : Option Sl → Option RV
  | some (.va x) => some (.d x)
  | some (.ow x) => some (.n x)
  | _ => none
def retR (ρ : Ev) : RV → Option RV
  | .d x => some (.d x)
  | .n x => some (.n x)
  | .o i => retS ρ[i]?
def sRet (te : ET) : ST := fun e ρ => te ρ (fun r ρ1 => some! (retR ρ1 r) fun z => e.rt z ρ1) e.xc
theorem ret_ok {K : PySem.W.Frag} {p0 : Amb} {M M1 : Addr → Prop} {σ : L2.St} {H H1 : Hp} {ρ ρ1 : Ev} {v : V} {r z : RV} (S : Sim K p0 M σ H ρ) (P : Post K p0 M σ H ρ M1 σ H1 ρ1) (R : RVok K M1 σ ρ1 H H1 v r) (h : retR ρ1 r = some z) : RetOk K p0 M1 σ H ρ H1 v z := by
  cases r with
  | d x => cases h; exact R
  | n x =>
    cases h
    obtain ⟨a, e, m, nw, f, o⟩ := R
    exact ⟨a, e, m, o, .inl f, fun z => S.p0k a z f⟩
  | o i =>
    have h : retS ρ1[i]? = some z := h
    obtain ⟨e1, _⟩ := R
    cases hy : ρ1[i]? with
    | none => rw [hy] at h; cases h
    | some s =>
      rw [hy] at h
      cases s with
      | va x =>
        cases h
        obtain ⟨v', e2, r⟩ := P.sim.va i x hy
        rw [e1] at e2; cases e2
        exact r
      | ow x =>
        cases h
        obtain ⟨a, e2, m, o, n⟩ := P.sim.ow i x hy
        rw [e1] at e2; cases e2
        exact ⟨a, rfl, m, o, (P.wr a ⟨i, x, .inl hy, e1⟩).symm, n⟩
      | _ => cases h
theorem ds_ret (he : DE X p W e te) : DS X p W (.Return (some e) pos) (sRet te) := ⟨PS.imp (ps_ret he.pe) fun D σ H ⟨M, ρ, e, S, h, l⟩ =>
  ⟨M, ρ, _, _, S, h, fun v M1 H1 ρ1 r P1 _ R1 h1 => by
    obtain ⟨z, e1, h2⟩ := some!_ok h1
    exact l.rt v M1 σ H1 ρ1 z P1 (ret_ok S P1 R1 e1) h2, fun c M1 H1 ρ1 P1 h1 => l.xc c M1 σ H1 ρ1 P1 h1⟩⟩
def sRetN : ST := fun e ρ => e.rt (.d .non) ρ
theorem ds_retN : DS X p W (.Return none pos) sRetN := ⟨PS.imp ps_retN fun D σ H ⟨M, ρ, e, S, h, l⟩ => l.rt .non M σ H ρ _ (Post.refl S) (RetOk.dd .non) h⟩
def sIf (c : BT) (t u : ST) : ST := fun e ρ => c ρ (fun b ρ1 => if b = true then t e ρ1 else u e ρ1) e.xc
theorem ds_if {c : Expr} {a b : List Stmt} {tc : BT} (hc : DB X p W c tc) (ha : DSs X p W a t) (hb : DSs X p W b u) : DS X p W (.If c a b pos) (sIf tc t u) := ⟨PS.imp (ps_if hc.pt ha.pss hb.pss) fun D σ H ⟨M, ρ, e, S, h, l⟩ => by
  refine ⟨M, ρ, _, _, S, h, fun k M1 H1 ρ1 P1 _ h1 => ?_, fun c M1 H1 ρ1 P1 h1 => l.xc c M1 σ H1 ρ1 P1 h1⟩
  cases k with
  | true =>
    rw [if_pos rfl] at h1 ⊢
    exact ⟨M1, ρ1, e, P1.sim, h1, l.after S P1⟩
  | false =>
    rw [if_neg Bool.false_ne_true] at h1 ⊢
    exact ⟨M1, ρ1, e, P1.sim, h1, l.after S P1⟩⟩
/-- name = e -/
def sSet (i : Nat) (te : ET) : ST := fun e ρ => te ρ (fun r ρ1 => some! (store i ρ1 r) e.nx) e.xc
theorem ds_set {i : Nat} {x : Str} {pos' : Pos} (hN : X.N.Nodup) (hi : X.N[i]? = some x) (hx : Loc X.env.scope x) (he : DE X p W e te) (hs : swapsWith e (some (.Name x pos')) pos.line X.env = pure false := by rfl) (hf : X.fn x = true ∨ X.env.scope.names.lookup x = some .local := by first | exact .inl rfl | exact .inr rfl | assumption) :
    DS X p W (.Assign [.Name x pos'] e pos) (sSet i te) := ⟨PS.imp (ps_set hN hi hx he.pe hs hf) fun D σ H ⟨M, ρ, e, S, h, l⟩ =>
  ⟨M, ρ, _, _, S, h, fun v M1 H1 ρ1 r P1 _ R1 h1 => by
    obtain ⟨ρ2, e1, h2⟩ := some!_ok h1
    obtain ⟨M2, P2⟩ := store_ok (i := i) S P1 R1 e1
    exact l.nx M2 _ H1 ρ2 P2 h2, fun c M1 H1 ρ1 P1 h1 => l.xc c M1 σ H1 ρ1 P1 h1⟩⟩
/-- name op= e -/
def sAug (f : D → D → (RV → Prop) → Prop) (i : Nat) (te : ET) : ST := fun e ρ => some! (slR i ρ[i]?) fun s => te ρ (fun r ρ1 => f2 f (rd ρ1 s) (rd ρ1 r) fun z => some! (store i ρ1 z) e.nx) e.xc
theorem ds_aug {i : Nat} {x : Str} {op : Operator} {r : R2} {f : D → D → (RV → Prop) → Prop} {pos' : Pos} (hN : X.N.Nodup) (hi : X.N[i]? = some x) (hx : Loc X.env.scope x) (ho : OpR X (inplaceOp op) r) (hr : R2D X.K r f) (he : DE X p W e te) (hf : X.fn x = true ∨ X.env.scope.names.lookup x = some .local := by first | exact .inl rfl | exact .inr rfl | assumption) :
    DS X p W (.AugAssign (.Name x pos') op e pos) (sAug f i te) := ⟨PS.imp (ps_aug hN hi hx he.pe (ti := r) ho hf) fun D σ H ⟨M, ρ, e, S, h, l⟩ => by
  obtain ⟨s, e0, h⟩ := some!_ok h
  obtain ⟨v0, hv0, R0⟩ := var_ok S e0
  refine ⟨v0, hv0, M, ρ, _, _, S, h, fun v M1 H1 ρ1 r1 P1 S1 R1 h1 => ?_, fun c M1 H1 ρ1 P1 h1 => l.xc c M1 σ H1 ρ1 P1 h1⟩
  obtain ⟨a, b, e1, e2, h2⟩ := f2_ok h1
  refine hr M1 H1 v0 v a b _ _ P1.sim.mok (rd_ok P1.sim (R0.post S P1 S1) e1) (rd_ok P1.sim R1 e2) h2 fun w M3 H3 z ok hz => ?_
  obtain ⟨P3, R3⟩ := ok.fin S P1
  obtain ⟨ρ2, e3, h3⟩ := some!_ok hz
  obtain ⟨M4, P4⟩ := store_ok (i := i) S P3 R3 e3
  exact l.nx M4 _ H3 ρ2 P4 h3⟩
/-- a result made ready to wait -/
def ripe (ρ : Ev) : RV → Option (RV × Ev)
  | .o i => match settle ρ (.o i) with
    | some (x, ρ1) => some (.d x, ρ1)
    | none => none
  | r => some (r, ρ)
theorem ripe_ok {K : PySem.W.Frag} {p0 : Amb} {M : Addr → Prop} {σ : L2.St} {H H0 : Hp} {ρ ρ' : Ev} {v : V} {r s : RV} (S : Sim K p0 M σ H ρ) (R : RVok K M σ ρ H0 H v r) (e : ripe ρ r = some (s, ρ')) :
    ∃ M', Post K p0 M σ H ρ M' σ H ρ' ∧ Slots ρ ρ' ∧ RVok K M' σ ρ' H0 H v s ∧ ∀ k, s ≠ .o k := by
  cases r with
  | d x => cases e; exact ⟨M, Post.refl S, Slots.refl ρ, R, fun k z => nomatch z⟩
  | n x => cases e; exact ⟨M, Post.refl S, Slots.refl ρ, R, fun k z => nomatch z⟩
  | o i =>
    unfold ripe at e
    simp only at e
    split at e
    · rename_i x ρ1 e1
      cases e
      obtain ⟨M', P, Sl, R'⟩ := settle_ok S R (fun y z => nomatch z) e1
      exact ⟨M', P, Sl, RVok.dd R', fun k z => nomatch z⟩
    · cases e
/-- r is stored while s waits: s came behind r -/
theorem store_wait {K : PySem.W.Frag} {p0 : Amb} {M0 M : Addr → Prop} {σ0 σ : L2.St} {H0 H1 H : Hp} {ρ0 ρ ρ' : Ev} {i : Nat} {u v : V} {r s : RV} (S0 : Sim K p0 M0 σ0 H0 ρ0) (P : Post K p0 M0 σ0 H0 ρ0 M σ H ρ)
    (R : RVok K M σ ρ H0 H u r) (T : RVok K M σ ρ H1 H v s) (nk : ∀ k, s ≠ .o k) (fr : ∀ a, u = .ref a → (∃ x, r = .n x) → H1 a ≠ none) (e : store i ρ r = some ρ') :
    ∃ M', Post K p0 M0 σ0 H0 ρ0 M' (σ.set i (some u)) H ρ' ∧ RVok K M' (σ.set i (some u)) ρ' H1 H v s := by
  have cold : ∀ (R' : RVok K M σ ρ H H u r), ∃ M', Post K p0 M0 σ0 H0 ρ0 M' (σ.set i (some u)) H ρ' ∧ RVok K M' (σ.set i (some u)) ρ' H1 H v s := fun R' => by
    obtain ⟨M', P'⟩ := store_ok (i := i) P.sim (Post.refl P.sim) R' e
    refine ⟨M', P.trans S0 P', ?_⟩
    cases s with
    | d x => exact Rep.keep (P'.keep P.sim) T
    | n x =>
      obtain ⟨p, rfl, m, nw, f, o⟩ := T
      exact ⟨p, rfl, P'.step.kp p m nw, fun z => (P'.wr p z).elim nw o.some, f, o.keep (P'.keep P.sim) fun _ z _ => z⟩
    | o k => exact absurd rfl (nk k)
  cases r with
  | d x => exact cold R
  | o k => exact cold R
  | n x =>
    cases e
    obtain ⟨p, rfl, m, nw, f, o⟩ := R
    obtain ⟨S1, w1⟩ := store_ow (i := i) P.sim m nw o (fun z => S0.p0k p z f) (fun _ _ => trivial)
    refine ⟨M, ⟨S1, P.step, fun a h => ?_⟩, ?_⟩
    · rcases w1 a h with h | h
      · exact P.wr a h
      · exact .inr (h ▸ f)
    · cases s with
      | d x => exact T
      | n y =>
        obtain ⟨p2, rfl, m2, nw2, f2, o2⟩ := T
        refine ⟨p2, rfl, m2, fun z => ?_, f2, o2⟩
        rcases w1 p2 z with h | h
        · exact nw2 h
        · exact fr p rfl ⟨x, rfl⟩ (h ▸ f2)
      | o k => exact absurd rfl (nk k)
/-- a, b = e1, e2 of plain local names -/
def sPar (i j : Nat) (ta tb : ET) : ST := fun e ρ => ta ρ (fun r ρ1 => tb ρ1 (fun s ρ2 => some! (ripe ρ2 s) fun z => some! (store i z.2 r) fun ρ3 => some! (store j ρ3 z.1) e.nx) e.xc) e.xc
variable {a b c : Expr} {ta tb tc : ET}
theorem n_there {K : PySem.W.Frag} {M : Addr → Prop} {σ : L2.St} {ρ : Ev} {H0 H : Hp} {u : V} {r : RV} (R : RVok K M σ ρ H0 H u r) : ∀ a, u = .ref a → (∃ x, r = .n x) → H a ≠ none := fun a e ⟨x, hx⟩ => by
  subst hx
  obtain ⟨p, e', _, _, _, o⟩ := R
  rw [e] at e'
  cases e'
  exact o.some
theorem ds_par {i j : Nat} {x y : Str} {px py pt : Pos} {kt k2 pt2} (hc : X.calm = true) (hN : X.N.Nodup) (hi : X.N[i]? = some x) (hj : X.N[j]? = some y) (hij : i ≠ j)
    (hx : X.env.scope.names.lookup x = some .local) (hy : X.env.scope.names.lookup y = some .local) (ha : DE X p W a ta) (hb : DE X p W b tb)
    (hw : swappedStores [.Tuple [.Name x px, .Name y py] kt pt] (.Tuple [a, b] k2 pt2) X.env = pure (some [x, y]))
    (hsa : starEach (a :: [b]) X.env = (false, eval a X.env) :: starEach [b] X.env := by rfl) (hsb : starEach (b :: []) X.env = (false, eval b X.env) :: starEach [] X.env := by rfl)
    (hs : swapsWithSole [.Tuple [.Name x px, .Name y py] kt pt] (.Tuple [a, b] k2 pt2) pos.line X.env = pure false := by rfl) :
    DS X p W (.Assign [.Tuple [.Name x px, .Name y py] kt pt] (.Tuple [a, b] k2 pt2) pos) (sPar i j ta tb) := ⟨PS.imp (ps_par hc hN hi hj hij hx hy (pa_cons ha.pe (pa_cons hb.pe pa_nil hsb) hsa) hw hs) fun D σ H ⟨M, ρ, e, S, h, l⟩ => by
  refine ⟨M, ρ, _, _, S, h, fun v M1 H1 ρ1 r P1 S1 R1 h1 => ?_, fun c M1 H1 ρ1 P1 h1 => l.xc c M1 σ H1 ρ1 P1 h1⟩
  refine ⟨M1, ρ1, _, _, P1.sim, h1, fun u M2 H2 ρ2 s P2 S2 R2 h2 => ?_, fun c M2 H2 ρ2 P2 h2 => l.xc c M2 σ H2 ρ2 (P1.trans S P2) h2⟩
  obtain ⟨⟨s', ρ3⟩, e1, h3⟩ := some!_ok h2
  obtain ⟨M3, P3, S3, R3, nk⟩ := ripe_ok P2.sim R2 e1
  obtain ⟨ρ4, e2, h4⟩ := some!_ok h3
  have Ra := (R1.post P1.sim P2 S2).post P2.sim P3 S3
  obtain ⟨M4, P4, R4⟩ := store_wait (i := i) S ((P1.trans S P2).trans S P3) Ra R3 nk (n_there R1) e2
  obtain ⟨ρ5, e3, h5⟩ := some!_ok h4
  have R4' : RVok X.K M4 (σ.set i (some v)) ρ4 H H2 u s' := R4.back P1.step.dom
  obtain ⟨M5, P5⟩ := store_ok (i := j) S P4 R4' e3
  exact ⟨v, u, rfl, l.nx M5 _ H2 ρ5 P5 h5⟩⟩
end
end DL

set_option Elab.async false
set_option linter.all false
set_option maxRecDepth 100000
set_option maxHeartbeats 4000000
namespace DL
open PySem PySem.Spec PyProof.Rows L2

/-! ### targets -/
abbrev GT := D → Ev → (Ev → Prop) → Prop
abbrev GTs := List D → Ev → (Ev → Prop) → Prop
/-- the slots but those of sl stand -/
def But (sl : List Nat) (σ σ' : L2.St) : Prop := σ'.length = σ.length ∧ ∀ j, j ∉ sl → σ'[j]? = σ[j]?
theorem But.trans {a b : List Nat} {σ σ1 σ2 : L2.St} (h : But a σ σ1) (k : But b σ1 σ2) : But (a ++ b) σ σ2 := ⟨k.1.trans h.1, fun j hj => (k.2 j fun z => hj (List.mem_append_right _ z)).trans (h.2 j fun z => hj (List.mem_append_left _ z))⟩
def liftG (K : PySem.W.Frag) (p0 : Amb) (sl : List Nat) (g : GT) : TG := fun v σ H Q => ∃ (M : Addr → Prop) (ρ : Ev) (d : D) (q : Ev → Prop), Sim K p0 M σ H ρ ∧ Rep K M H v d ∧ g d ρ q ∧ ∀ M' σ' H' ρ', Post K p0 M σ H ρ M' σ' H' ρ' → But sl σ σ' → q ρ' → Q σ' H'
def liftGs (K : PySem.W.Frag) (p0 : Amb) (sl : List Nat) (g : GTs) : TGs := fun vs σ H Q => ∃ (M : Addr → Prop) (ρ : Ev) (ds : List D) (q : Ev → Prop), Sim K p0 M σ H ρ ∧ RepL K M H vs ds ∧ g ds ρ q ∧ ∀ M' σ' H' ρ', Post K p0 M σ H ρ M' σ' H' ρ' → But sl σ σ' → q ρ' → Q σ' H'
structure DG (X : Cx) (p0 : Amb) (tg : Expr) (sl : List Nat) (g : GT) : Prop where
  pg : PG X tg (liftG X.K p0 sl g)
structure DGs (X : Cx) (p0 : Amb) (tg : List Expr) (sl : List Nat) (g : GTs) : Prop where
  pgs : PGs X tg (liftGs X.K p0 sl g)
theorem PG.imp {X : Cx} {e : Expr} {t u : TG} (h : PG X e t) (i : ∀ v σ H Q, u v σ H Q → t v σ H Q) : PG X e u := ⟨fun pins s σ H v w Q I r hu => h.run pins s σ H v w Q I r (i v σ H Q hu)⟩
theorem PGs.imp {X : Cx} {e : List Expr} {t u : TGs} (h : PGs X e t) (i : ∀ v σ H Q, u v σ H Q → t v σ H Q) : PGs X e u := ⟨fun pins s σ H v w Q I r hu => h.run pins s σ H v w Q I r (i v σ H Q hu)⟩
section
variable {X : Cx} {p : Amb} {W : WX} {pos : Pos} {e : Expr} {es : List Expr}
def gVar (i : Nat) : GT := fun d ρ q => q (ρ.set i (.va d))
theorem dg_name {i : Nat} {x : Str} (hN : X.N.Nodup) (hi : X.N[i]? = some x) (hx : Loc X.env.scope x) (hf : X.fn x = true ∨ X.env.scope.names.lookup x = some .local := by first | exact .inl rfl | exact .inr rfl | assumption) : DG X p (.Name x pos) [i] (gVar i) :=
  ⟨PG.imp (pg_name hN hi hx hf) fun v σ H Q ⟨M, ρ, d, q, S, R, h, k⟩ => k M _ H _ (store_va S R) ⟨List.length_set, fun j hj => List.getElem?_set_ne fun z => hj (by rw [z]; exact List.mem_singleton_self j)⟩ h⟩
def gsNil : GTs := fun ds ρ q => match ds with
  | [] => q ρ
  | _ => False
def gsCons (g : GT) (gs : GTs) : GTs := fun ds ρ q => match ds with
  | x :: xs => g x ρ fun ρ' => gs xs ρ' q
  | _ => False
theorem dgs_nil : DGs X p [] [] gsNil := ⟨PGs.imp pgs_nil fun v σ H Q ⟨M, ρ, ds, q, S, R, h, k⟩ => by
  cases R with
  | nil => exact ⟨rfl, k M σ H ρ (Post.refl S) ⟨rfl, fun _ _ => rfl⟩ h⟩
  | cons _ _ => exact h.elim⟩
theorem dgs_cons {g : GT} {gs : GTs} {sl sls : List Nat} (h1 : DG X p e sl g) (h2 : DGs X p es sls gs) (hs : (assignEach (e :: es) X.env).map (·.2) = assign e X.env :: (assignEach es X.env).map (·.2) := by rfl) : DGs X p (e :: es) (sl ++ sls) (gsCons g gs) :=
  ⟨PGs.imp (pgs_cons h1.pg h2.pgs hs) fun v σ H Q ⟨M, ρ, ds, q, S, R, h, k⟩ => by
    cases R with
    | nil => exact h.elim
    | cons r rs =>
      refine ⟨_, _, rfl, M, ρ, _, _, S, r, h, fun M1 σ1 H1 ρ1 P1 B1 h1 => ?_⟩
      exact ⟨M1, ρ1, _, q, P1.sim, rs.keep (P1.keep S), h1, fun M2 σ2 H2 ρ2 P2 B2 h2 => k M2 σ2 H2 ρ2 (P1.trans S P2) (B1.trans B2) h2⟩⟩
def gTupD (n : Nat) (gs : GTs) : GT := fun d ρ q => match d with
  | .tup ds => ds.length = n ∧ gs ds ρ q
  | _ => False
theorem dg_tup {k : Nat} {gs : GTs} {n : Nat} {sl : List Nat} (hc : X.calm = true) (h : DGs X p es sl gs)
    (hn : (assignEach es X.env).length = n := by rfl) (hst : (assignEach es X.env).findIdx? (·.1) = none := by rfl) : DG X p (.Tuple es k pos) sl (gTupD n gs) :=
  ⟨PG.imp (pg_tup hc h.pgs hn hst) fun v σ H Q ⟨M, ρ, d, q, S, R, h, k⟩ => by
    cases R with
    | tup s r => exact ⟨_, _, rfl, s.sq, by rw [r.length]; exact h.1, M, ρ, _, q, S, r, h.2, k⟩
    | _ => exact h.elim⟩
/-- o[i] = .., o the slot's own list -/
def gSetL (to ti : ET) : GT := fun d ρ q => to ρ (fun r ρ1 => ti ρ1 (fun s ρ2 => some! (ownL ρ2 r) fun a => some! (intR ρ2 s) fun k => some! (ixN a.2.length k) fun j => q (put a.1 (.lst (a.2.set j d)) ρ2)) fun _ _ => False) fun _ _ => False
theorem dg_setL {o i : Expr} {to ti : ET} (ho : DE X p (fun _ _ _ _ => False) o to) (hi : DE X p (fun _ _ _ _ => False) i ti)
    (ha : ∀ v, assign (.Subscript o i pos) X.env v = (do
      let ov ← holding [v] (eval o X.env)
      let iv ← holding [v, ov] (eval i X.env)
      standAt pos
      holding [v, ov, iv] (setItem ov iv v)
      release [v, ov, iv] []) := by intro _; rfl) : DG X p (.Subscript o i pos) [] (gSetL to ti) :=
  ⟨PG.imp (pg_sub ho.pe hi.pe set_list ha) fun v σ H Q ⟨M, ρ, d, q, S, R, h, k⟩ => by
    refine ⟨M, ρ, _, _, S, h, fun vo M1 H1 ρ1 r1 P1 S1 R1 h1 => ?_, fun c M1 H1 ρ1 P1 h1 => h1⟩
    refine ⟨M1, ρ1, _, _, P1.sim, h1, fun vi M2 H2 ρ2 r2 P2 S2 R2 h2 => ?_, fun c M2 H2 ρ2 P2 h2 => h2⟩
    obtain ⟨⟨n, xs⟩, e1, h3⟩ := some!_ok h2
    obtain ⟨rfl, eo⟩ := ownL_ok e1
    obtain ⟨j, e2, h4⟩ := some!_ok h3
    obtain ⟨l, e3, h5⟩ := some!_ok h4
    obtain ⟨a, hs1, m1, ⟨vs0, hv0, r0⟩, w1⟩ := own_at P2.sim eo
    obtain rfl : vo = .ref a := by
      have z := R1.1
      rw [hs1] at z
      cases z
      rfl
    have P12 := P1.trans S P2
    refine ⟨a, vs0, j, l, rfl, (rd_ok P2.sim R2 (intR_ok e2)).int, hv0, by rw [r0.length]; exact e3, ?_⟩
    have kk : Keep M2 H2 M2 (upd H2 a (.lst (vs0.set l v))) := fun b w e n _ => ⟨by rw [upd_cold m1 n]; exact e, n⟩
    have P4 := mut_ok P2.sim eo hs1 (o := .lst (vs0.set l v)) (y := .lst (xs.set l d)) ⟨_, upd_same, (r0.keep kk).set _ ((R.keep (P12.keep S)).keep kk)⟩
    exact k _ _ _ _ (P12.trans S P4) ⟨rfl, fun _ _ => rfl⟩ h5⟩
/-- target = e -/
def sAsg (te : ET) (g : GT) : ST := fun e ρ => te ρ (fun r ρ1 => some! (settle ρ1 r) fun z => g z.1 z.2 e.nx) e.xc
theorem ds_asg {tg : Expr} {te : ET} {g : GT} {sl : List Nat} (he : DE X p W e te) (hg : DG X p tg sl g) (hs : swapsWithSole [tg] e pos.line X.env = pure false := by rfl) (hw : swappedStores [tg] e X.env = pure none := by rfl)
    (h1 : (assignEach [tg] X.env).map (·.2) = [assign tg X.env] := by rfl) : DS X p W (.Assign [tg] e pos) (sAsg te g) := ⟨PS.imp (ps_asg he.pe hg.pg hs hw h1) fun D σ H ⟨M, ρ, e, S, h, l⟩ => by
  refine ⟨M, ρ, _, _, S, h, fun v M1 H1 ρ1 r P1 S1 R1 h1 => ?_, fun c M1 H1 ρ1 P1 h1 => l.xc c M1 σ H1 ρ1 P1 h1⟩
  obtain ⟨⟨x, ρ2⟩, e1, h2⟩ := some!_ok h1
  obtain ⟨M2, P2, S2, R2⟩ := settleN_ok S P1 R1 e1
  exact ⟨M2, ρ2, x, _, P2.sim, R2, h2, fun M3 σ3 H3 ρ3 P3 _ h3 => l.nx M3 σ3 H3 ρ3 (P2.trans S P3) h3⟩⟩
end

/-! ### what is walked -/
abbrev IT := Ev → (List D → Ev → Prop) → XQ → Prop
/-- it yields the data ds, whatever is laid meanwhile -/
def ItOk (K : PySem.W.Frag) (M : Addr → Prop) (H : Hp) (J : It) (ds : List D) : Prop := ∀ (M' : Addr → Prop) (H' : Hp), Keep M H M' H' → (∀ q, M' q → H' q ≠ none) →
  (∀ (i : Nat) (d : D), ds[i]? = some d → J.go i H' ∧ ∀ x H'', J.yld i H' x H'' → ∃ M'', Step M' Nil H' M'' H'' ∧ (∀ q, M'' q → H'' q ≠ none) ∧ Rep K M'' H'' x d) ∧ J.stop ds.length H'
def liftI (K : PySem.W.Frag) (p0 : Amb) (W : WX) (t : IT) : TI := fun σ H R => ∃ (M : Addr → Prop) (ρ : Ev) (q : List D → Ev → Prop) (x : XQ), Sim K p0 M σ H ρ ∧ t ρ q x ∧
  (∀ J M' H' ρ' ds, Post K p0 M σ H ρ M' σ H' ρ' → ItOk K M' H' J ds → q ds ρ' → R J H') ∧
  (∀ c M' H' ρ', Post K p0 M σ H ρ M' σ H' ρ' → x c ρ' → W (.ref c) none σ H')
structure DI (X : Cx) (p0 : Amb) (W : WX) (tg iter : Expr) (t : IT) : Prop where
  pi : PI X tg iter (liftI X.K p0 W t)
theorem PI.imp {X : Cx} {tg e : Expr} {t u : TI} (h : PI X tg e t) (i : ∀ σ H Q, u σ H Q → t σ H Q) : PI X tg e u := ⟨fun pins s σ H Q I hu => h.run pins s σ H Q I (i σ H Q hu)⟩
section
variable {X : Cx} {p : Amb} {W : WX} {tg : Expr}
/-- a list or a tuple -/
def iSeq (K : PySem.W.Frag) (tl : TE) : TI := fun σ H R => tl σ H fun x H1 => ∃ a, x = .ref a ∧ (((∃ xs, SqL K H1 a xs) ∧ R (Itl K a) H1) ∨ ((∃ xs, SqT K H1 a xs) ∧ R (Itt K a) H1))
theorem pi_seq {l : Expr} {tl : TE} (hl : PE X l tl) : PI X tg l (iSeq X.K tl) := ⟨fun pins s σ H R I h => thn (hl.run pins s σ H _ I h) fun u s1 hu => by
  obtain ⟨x, G, J, rx, a, rfl, hq | hq⟩ := hu
  · obtain ⟨⟨xs, hx⟩, q⟩ := hq
    cases rx
    obtain ⟨us, vu, pl, _⟩ := J.list hx
    refine wpAny_pyIter_list pl.isList ⟨_, [s1.heap.objs.size], _, _, G, rfl, J.kept (t' := s1.toks) (fun b w z => Heap.get?_push_of_some _ z), turn_list a _, ⟨_, Heap.get?_push_size _ rfl, rfl, rfl⟩, fun b hb => ?_, q⟩
    rw [List.mem_singleton.mp hb]
    exact J.fpOk (Nat.le_refl _) J.fresh
  · obtain ⟨⟨xs, hx⟩, q⟩ := hq
    cases rx
    obtain ⟨us, vu, pl, _⟩ := J.tuple hx
    refine wpAny_pyIter_tuple (show s1.heap.IsTuple a us.toArray from pl) ⟨_, [s1.heap.objs.size], _, _, G, rfl, J.kept (t' := s1.toks) (fun b w z => Heap.get?_push_of_some _ z), turn_tuple a _, ⟨_, Heap.get?_push_size _ rfl, rfl, rfl⟩, fun b hb => ?_, q⟩
    rw [List.mem_singleton.mp hb]
    exact J.fpOk (Nat.le_refl _) J.fresh⟩
def seqS : D → Option (List D)
  | .lst ds => some ds
  | .tup ds => some ds
  | .fz ds => some ds
  | _ => none
def iSeqD (te : ET) : IT := fun ρ q x => te ρ (fun r ρ1 => some! (settle ρ1 r) fun z => some! (seqS z.1) fun ds => q ds z.2) x
theorem it_list {K : PySem.W.Frag} {M : Addr → Prop} {H : Hp} {a : Addr} {vs : List V} {ds : List D} {o : HO} (ho : H a = some o) (nt : ∀ ps, o ≠ HO.tbl ps) (n : ¬ M a) (hs : ∀ H' : Hp, H' a = some o → SqL K H' a vs) (r : RepL K M H vs ds) : ItOk K M H (Itl K a) ds := fun M' H' k mok => by
  have h1 : SqL K H' a vs := hs H' (k a o ho n nt).1
  refine ⟨fun i d hi => ?_, vs, h1, by rw [r.length]; exact Nat.le_refl _⟩
  obtain ⟨u, eu, ru⟩ := r.get hi
  refine ⟨⟨vs, u, h1, eu⟩, fun x H'' y => ?_⟩
  obtain ⟨e, f⟩ := y
  subst e
  have eq : x = u := Option.some.inj ((f vs h1).symm.trans eu)
  subst eq
  exact ⟨M', Step.refl, mok, ru.keep k⟩
theorem it_fz {K : PySem.W.Frag} {M : Addr → Prop} {H : Hp} {a : Addr} {vs : List V} {ds : List D} (h : SqLM K M H a vs) (r : RepL K M H vs ds) : ItOk K M H (Itl K a) ds := fun M' H' k mok => by
  have h1 : SqL K H' a vs := (h.keep k).sq
  refine ⟨fun i d hi => ?_, vs, h1, by rw [r.length]; exact Nat.le_refl _⟩
  obtain ⟨u, eu, ru⟩ := r.get hi
  refine ⟨⟨vs, u, h1, eu⟩, fun x H'' y => ?_⟩
  obtain ⟨e, f⟩ := y
  subst e
  have eq : x = u := Option.some.inj ((f vs h1).symm.trans eu)
  subst eq
  exact ⟨M', Step.refl, mok, ru.keep k⟩
theorem it_tup {K : PySem.W.Frag} {M : Addr → Prop} {H : Hp} {a : Addr} {vs : List V} {ds : List D} (h : SqTM K M H a vs) (r : RepL K M H vs ds) : ItOk K M H (Itt K a) ds := fun M' H' k mok => by
  have h1 : SqT K H' a vs := (h.keep k).sq
  refine ⟨fun i d hi => ?_, vs, h1, by rw [r.length]; exact Nat.le_refl _⟩
  obtain ⟨u, eu, ru⟩ := r.get hi
  refine ⟨⟨vs, u, h1, eu⟩, fun x H'' y => ?_⟩
  obtain ⟨e, f⟩ := y
  subst e
  have eq : x = u := Option.some.inj ((f vs h1).symm.trans eu)
  subst eq
  exact ⟨M', Step.refl, mok, ru.keep k⟩
theorem di_seq {l : Expr} {te : ET} (he : DE X p W l te) : DI X p W tg l (iSeqD te) := ⟨PI.imp (pi_seq he.pe) fun σ H R ⟨M, ρ, q, xq, S, h, hq, hx⟩ => by
  refine ⟨M, ρ, _, _, S, h, fun v M1 H1 ρ1 r P1 S1 R1 h1 => ?_, hx⟩
  obtain ⟨⟨d, ρ2⟩, e1, h2⟩ := some!_ok h1
  obtain ⟨M2, P2, S2, R2⟩ := settleN_ok S P1 R1 e1
  obtain ⟨ds, e2, h3⟩ := some!_ok h2
  cases R2 with
  | lst hl n r =>
    cases e2
    exact ⟨_, rfl, .inl ⟨⟨_, SqL.of hl⟩, hq _ M2 H1 ρ2 _ P2 (it_list hl (fun _ z => nomatch z) n (fun H' e => SqL.of e) r) h3⟩⟩
  | fz hl r =>
    cases e2
    exact ⟨_, rfl, .inl ⟨⟨_, hl.sq⟩, hq _ M2 H1 ρ2 _ P2 (it_fz hl r) h3⟩⟩
  | tup hl r =>
    cases e2
    exact ⟨_, rfl, .inr ⟨⟨_, hl.sq⟩, hq _ M2 H1 ρ2 _ P2 (it_tup hl r) h3⟩⟩
  | _ => cases e2⟩
/-- ranges -/
def rngD (lo : Int) (n : Nat) : List D := (List.range n).map fun (i : Nat) => D.int (lo + (i : Int))
theorem it_range {K : PySem.W.Frag} {M : Addr → Prop} {H : Hp} (lo : Int) (n : Nat) : ItOk K M H (Itr lo n) (rngD lo n) := fun M' H' k mok => by
  refine ⟨fun i d hi => ?_, by unfold rngD; rw [List.length_map, List.length_range]; exact Nat.le_refl n⟩
  unfold rngD at hi
  rw [List.getElem?_map] at hi
  cases e : (List.range n)[i]? with
  | none => rw [e] at hi; cases hi
  | some j =>
    rw [e] at hi
    cases hi
    obtain ⟨hl, ej⟩ := List.getElem?_eq_some_iff.mp e
    rw [List.getElem_range] at ej
    subst ej
    rw [List.length_range] at hl
    refine ⟨hl, fun x H'' y => ?_⟩
    obtain ⟨rfl, rfl⟩ := y
    exact ⟨M', Step.refl, mok, .int _⟩
theorem rvInt1 {K : PySem.W.Frag} {M : Addr → Prop} {σ : L2.St} {ρ : Ev} {H0 H : Hp} {vs : List V} {i : Int} (R : RVsOk K M σ ρ H0 H vs [.d (.int i)]) : vs = [.int i] := by
  cases R with | cons a _ b =>
    cases b
    cases a with | int _ => rfl
theorem rvInt2 {K : PySem.W.Frag} {M : Addr → Prop} {σ : L2.St} {ρ : Ev} {H0 H : Hp} {vs : List V} {i j : Int} (R : RVsOk K M σ ρ H0 H vs [.d (.int i), .d (.int j)]) : vs = [.int i, .int j] := by
  cases R with | cons a _ b =>
    cases a with | int _ => rw [rvInt1 b]
theorem rvInt3 {K : PySem.W.Frag} {M : Addr → Prop} {σ : L2.St} {ρ : Ev} {H0 H : Hp} {vs : List V} {i j k : Int} (R : RVsOk K M σ ρ H0 H vs [.d (.int i), .d (.int j), .d (.int k)]) : vs = [.int i, .int j, .int k] := by
  cases R with | cons a _ b =>
    cases a with | int _ => rw [rvInt2 b]
def iR1 (ta : AT) : IT := fun ρ q x => ta ρ (fun rs ρ1 => match rs with
  | [.d (.int j)] => -(2 ^ 62) ≤ j ∧ j < 2 ^ 62 ∧ q (rngD 0 j.toNat) ρ1
  | _ => False) x
def iR2 (ta : AT) : IT := fun ρ q x => ta ρ (fun rs ρ1 => match rs with
  | [.d (.int i), .d (.int j)] => (-(2 ^ 62) ≤ i ∧ i < 2 ^ 62 ∧ -(2 ^ 62) ≤ j ∧ j < 2 ^ 62) ∧ q (rngD i (j - i).toNat) ρ1
  | _ => False) x
/-- a step: how many, and which -/
def rngC (lo c : Int) (n : Nat) : List D := (List.range n).map fun (i : Nat) => D.int (lo + (i : Int) * c)
def iR3 (ta : AT) : IT := fun ρ q x => ta ρ (fun rs ρ1 => match rs with
  | [.d (.int i), .d (.int j), .d (.int c)] => ∃ n, RgC i j c n ∧ q (rngC i c n) ρ1
  | _ => False) x
theorem it_rangeC {K : PySem.W.Frag} {M : Addr → Prop} {H : Hp} (lo c : Int) (n : Nat) : ItOk K M H (Itc lo c n) (rngC lo c n) := fun M' H' k mok => by
  refine ⟨fun i d hi => ?_, by unfold rngC; rw [List.length_map, List.length_range]; exact Nat.le_refl n⟩
  unfold rngC at hi
  rw [List.getElem?_map] at hi
  cases e : (List.range n)[i]? with
  | none => rw [e] at hi; cases hi
  | some j =>
    rw [e] at hi
    cases hi
    obtain ⟨hl, ej⟩ := List.getElem?_eq_some_iff.mp e
    rw [List.getElem_range] at ej
    subst ej
    rw [List.length_range] at hl
    refine ⟨hl, fun x H'' y => ?_⟩
    obtain ⟨rfl, rfl⟩ := y
    exact ⟨M', Step.refl, mok, .int _⟩
theorem di_range1 {a : Expr} {ta : AT} {pp pos : Pos} (hm : X.mg "range" = none) (ha : DA X p W [a] ta) (hg : Gl X "range" := by rfl) (hs : starEach [a] X.env = [(false, eval a X.env)] := by rfl) : DI X p W tg (.Call (.Name "range" pp) [a] [] pos) (iR1 ta) :=
  ⟨PI.imp (pi_range1 hg hm ha.pa hs) fun σ H R ⟨M, ρ, q, xq, S, h, hq, hx⟩ => by
    refine ⟨M, ρ, _, _, S, h, fun vs M1 H1 ρ1 rs P1 S1 R1 h1 => ?_, hx⟩
    split at h1
    · rename_i j
      exact ⟨j, rvInt1 R1, h1.1, h1.2.1, hq _ M1 H1 ρ1 _ P1 (it_range 0 j.toNat) h1.2.2⟩
    · exact h1.elim⟩
theorem di_range2 {a b : Expr} {ta : AT} {pp pos : Pos} (hm : X.mg "range" = none) (ha : DA X p W [a, b] ta) (hg : Gl X "range" := by rfl) (hs : starEach [a, b] X.env = [(false, eval a X.env), (false, eval b X.env)] := by rfl) (hs2 : starEach [b] X.env = [(false, eval b X.env)] := by rfl) :
    DI X p W tg (.Call (.Name "range" pp) [a, b] [] pos) (iR2 ta) :=
  ⟨PI.imp (pi_range2 hg hm ha.pa hs hs2) fun σ H R ⟨M, ρ, q, xq, S, h, hq, hx⟩ => by
    refine ⟨M, ρ, _, _, S, h, fun vs M1 H1 ρ1 rs P1 S1 R1 h1 => ?_, hx⟩
    split at h1
    · rename_i i j
      exact ⟨i, j, rvInt2 R1, h1.1, hq _ M1 H1 ρ1 _ P1 (it_range i _) h1.2⟩
    · exact h1.elim⟩
theorem di_range3 {a b c : Expr} {ta : AT} {pp pos : Pos} (hm : X.mg "range" = none) (ha : DA X p W [a, b, c] ta) (hg : Gl X "range" := by rfl)
    (hs : starEach [a, b, c] X.env = (false, eval a X.env) :: starEach [b, c] X.env := by rfl) (hpl : (backTo pos (starEach [b, c] X.env)).any (·.1) = false := by rfl) :
    DI X p W tg (.Call (.Name "range" pp) [a, b, c] [] pos) (iR3 ta) :=
  ⟨PI.imp (pi_range3 hg hm ha.pa hs hpl) fun σ H R ⟨M, ρ, q, xq, S, h, hq, hx⟩ => by
    refine ⟨M, ρ, _, _, S, h, fun vs M1 H1 ρ1 rs P1 S1 R1 h1 => ?_, hx⟩
    split at h1
    · rename_i i j c
      obtain ⟨n, hn, h2⟩ := h1
      exact ⟨i, j, c, n, rvInt3 R1, hn, hq _ M1 H1 ρ1 _ P1 (it_rangeC i c n) h2⟩
    · exact h1.elim⟩
end

/-! ### while, for -/
section
variable {X : Cx} {p : Amb} {W : WX} {pos : Pos}
def sWhile (c : BT) (tb : ST) : ST := fun e ρ => ∃ P : Nat → Ev → Prop, (∃ m, P m ρ) ∧ ∀ m ρ, P m ρ →
  c ρ (fun b ρ1 => if b = true then tb { e with nx := fun ρ2 => ∃ m', m' < m ∧ P m' ρ2, ct := fun ρ2 => ∃ m', m' < m ∧ P m' ρ2, bk := e.nx } ρ1 else e.nx ρ1) e.xc
theorem ds_while {c : Expr} {body : List Stmt} {tc : BT} {tb : ST} (hp : PassesOwn (model X.prog X.w) X.A X.env X.xe) (hc : DB X p W c tc) (hb : DSs X p W body tb) : DS X p W (.While c body [] pos) (sWhile tc tb) :=
  ⟨PS.imp (ps_while hp hc.pt hb.pss) fun D σ H ⟨M, ρ, e, S, ⟨P, ⟨m0, w0⟩, turn⟩, l⟩ => by
    refine ⟨fun m σ' H' => ∃ M' ρ', Post X.K p M σ H ρ M' σ' H' ρ' ∧ P m ρ', ⟨m0, M, ρ, Post.refl S, w0⟩, fun m σ1 H1 ⟨M1, ρ1, P1, w1⟩ => ?_⟩
    refine ⟨M1, ρ1, _, _, P1.sim, turn m ρ1 w1, fun k M2 H2 ρ2 P2 S2 h2 => ?_, fun c M2 H2 ρ2 P2 h2 => l.xc c M2 σ1 H2 ρ2 (P1.trans S P2) h2⟩
    have P12 := P1.trans S P2
    cases k with
    | true =>
      rw [if_pos rfl] at h2
      refine iteT ?_
      refine ⟨fun σ' H' => ∃ m', m' < m ∧ ∃ M' ρ', Post X.K p M σ H ρ M' σ' H' ρ' ∧ P m' ρ', fun σ' H' ⟨m', hm, z⟩ => ⟨m', hm, z⟩, M2, ρ2, _, P2.sim, h2, ?_⟩
      have l2 := l.after S P12
      exact ⟨fun M3 σ3 H3 ρ3 P3 ⟨m', hm, w⟩ => ⟨m', hm, M3, ρ3, P12.trans S P3, w⟩, fun M3 σ3 H3 ρ3 P3 h => l2.nx M3 σ3 H3 ρ3 P3 h, fun M3 σ3 H3 ρ3 P3 ⟨m', hm, w⟩ => ⟨m', hm, M3, ρ3, P12.trans S P3, w⟩, l2.rt, l2.xc⟩
    | false =>
      rw [if_neg Bool.false_ne_true] at h2
      refine iteF ?_
      exact l.nx M2 σ1 H2 ρ2 P12 h2⟩
def sFor (ti : IT) (g : GT) (tb : ST) : ST := fun e ρ => ti ρ (fun ds ρ1 => ∃ P : Nat → Ev → Prop, P 0 ρ1 ∧ (∀ i d ρ, ds[i]? = some d → P i ρ → g d ρ fun ρ2 => tb { e with nx := P (i + 1), ct := P (i + 1), bk := e.nx } ρ2) ∧ (∀ ρ, P ds.length ρ → e.nx ρ)) e.xc
theorem ds_for {tg iter : Expr} {body : List Stmt} {ti : IT} {g : GT} {tb : ST} {sl : List Nat} (hp : PassesOwn (model X.prog X.w) X.A X.env X.xe) (hc : X.calm = true) (hi : DI X p W tg iter ti) (hg : DG X p tg sl g) (hb : DSs X p W body tb)
    (hs : ∀ x, foldedSetIterable iter X.env x = pure x := by intro _; rfl) : DS X p W (.For tg iter body [] pos) (sFor ti g tb) :=
  ⟨PS.imp (ps_for hp hc hi.pi hg.pg hb.pss hs) fun D σ H ⟨M, ρ, e, S, h, l⟩ => by
    refine ⟨M, ρ, _, _, S, h, fun J M1 H1 ρ1 ds P1 it h1 => ?_, fun c M1 H1 ρ1 P1 h1 => l.xc c M1 σ H1 ρ1 P1 h1⟩
    obtain ⟨P, w0, step, fin⟩ := h1
    refine ⟨fun i m σ' H' => i + m = ds.length ∧ ∃ M' ρ', Post X.K p M1 σ H1 ρ1 M' σ' H' ρ' ∧ P i ρ', ⟨ds.length, Nat.zero_add _, M1, ρ1, Post.refl P1.sim, w0⟩, ?_⟩
    rintro i m σ2 H2 ⟨em, M2, ρ2, P2, w2⟩
    obtain ⟨go, stop⟩ := it M2 H2 (P2.keep P1.sim) P2.sim.mok
    by_cases hl : i < ds.length
    · right
      obtain ⟨gi, yi⟩ := go i _ (List.getElem?_eq_getElem hl)
      refine ⟨gi, fun σ' H' => ∃ M' ρ', Post X.K p M1 σ H1 ρ1 M' σ' H' ρ' ∧ P (i + 1) ρ', fun σ' H' ⟨M', ρ', P', w'⟩ => ⟨m - 1, by omega, by omega, M', ρ', P', w'⟩, fun x H3 y => ?_⟩
      obtain ⟨M3, st, mok3, R3⟩ := yi x H3 y
      have P3 := P2.sim.post st mok3
      refine ⟨M3, ρ2, _, _, P3.sim, R3, step i _ ρ2 (List.getElem?_eq_getElem hl) w2, fun M4 σ4 H4 ρ4 P4 _ h4 => ?_⟩
      have P14 := (P2.trans P1.sim P3).trans P1.sim P4
      have l4 := l.after S (P1.trans S P14)
      refine ⟨M4, ρ4, _, P4.sim, h4, ?_⟩
      exact ⟨fun M5 σ5 H5 ρ5 P5 w => ⟨M5, ρ5, P14.trans P1.sim P5, w⟩, fun M5 σ5 H5 ρ5 P5 h => l4.nx M5 σ5 H5 ρ5 P5 h, fun M5 σ5 H5 ρ5 P5 w => ⟨M5, ρ5, P14.trans P1.sim P5, w⟩, l4.rt, l4.xc⟩
    · left
      have ei : i = ds.length := by omega
      subst ei
      exact ⟨stop, (l.after S P1).nx M2 σ2 H2 ρ2 P2 (fin ρ2 w2)⟩⟩
end
end DL

set_option Elab.async false
set_option linter.all false
set_option maxRecDepth 100000
set_option maxHeartbeats 4000000
namespace DL
open PySem PySem.Spec PyProof.Rows L2

abbrev wNo : WX := fun _ _ _ _ => False
abbrev xNo : XQ := fun _ _ => False
def wipeE (ρ : Ev) : List Nat → Ev
  | [] => ρ
  | v :: vs => (wipeE ρ vs).set v .no
def unwipe (ρ1 ρ2 : Ev) : List Nat → Ev
  | [] => ρ2
  | v :: vs => (unwipe ρ1 ρ2 vs).set v (ρ1[v]?.getD .no)
section
variable {K : PySem.W.Frag} {p0 : Amb} {M M1 M' : Addr → Prop} {σ σ1 : L2.St} {H H1 H' : Hp} {ρ ρ1 ρ2 : Ev} {v : V} {i : Nat} {x : D}
theorem Sim.set_no (S : Sim K p0 M σ H ρ) (i : Nat) : Sim K p0 M (σ.set i none) H (ρ.set i .no) ∧ ∀ a, Wr (σ.set i none) (ρ.set i .no) a → Wr σ ρ a := by
  have sg : ∀ {j : Nat} {w : V}, (σ.set i none)[j]? = some (some w) → σ[j]? = some (some w) ∧ j ≠ i := fun {j w} h => by
    rcases set_get h with ⟨_, e⟩ | ⟨e, h⟩
    · cases e
    · exact ⟨h, e⟩
  have old : ∀ {j : Nat} {d : D}, ((ρ.set i .no)[j]? = some (.ow d) ∨ (ρ.set i .no)[j]? = some (.io d)) → (ρ[j]? = some (.ow d) ∨ ρ[j]? = some (.io d)) := fun {j d} h => by
    rcases h with h | h
    · rcases get_set h with ⟨_, e⟩ | ⟨_, e⟩
      · cases e
      · exact .inl e
    · rcases get_set h with ⟨_, e⟩ | ⟨_, e⟩
      · cases e
      · exact .inr e
  refine ⟨⟨by rw [List.length_set, List.length_set]; exact S.len, fun j d e => ?_, fun j d e => ?_, fun j d e => ?_, fun j l d e q h1 h2 h3 h4 => S.inj j l d e q (old h1) (old h2) (sg h3).1 (sg h4).1, S.mok, S.p0k, S.tabs⟩, fun a ⟨j, d, h1, h2⟩ => ⟨j, d, old h1, (sg h2).1⟩⟩
  · rcases get_set e with ⟨_, e'⟩ | ⟨hj, e'⟩
    · cases e'
    · obtain ⟨u, e1, r⟩ := S.va j d e'
      exact ⟨u, set_other hj e1, r⟩
  · rcases get_set e with ⟨_, e'⟩ | ⟨hj, e'⟩
    · cases e'
    · obtain ⟨q, e1, m, o, n⟩ := S.ow j d e'
      exact ⟨q, set_other hj e1, m, o, n⟩
  · rcases get_set e with ⟨_, e'⟩ | ⟨hj, e'⟩
    · cases e'
    · obtain ⟨q, e1, m, o, n⟩ := S.io j d e'
      exact ⟨q, set_other hj e1, m, o, n⟩
theorem Sim.wipe (S : Sim K p0 M σ H ρ) : ∀ vs : List Nat, Sim K p0 M (L2.wipe σ vs) H (wipeE ρ vs) ∧ ∀ a, Wr (L2.wipe σ vs) (wipeE ρ vs) a → Wr σ ρ a
  | [] => ⟨S, fun _ h => h⟩
  | v :: vs => by
    obtain ⟨S1, w1⟩ := Sim.wipe S vs
    obtain ⟨S2, w2⟩ := S1.set_no v
    exact ⟨S2, fun a h => w1 a (w2 a h)⟩
theorem wipe_get (σ : L2.St) : ∀ (vs : List Nat) (j : Nat), (L2.wipe σ vs)[j]? = if j ∈ vs then (if j < σ.length then some none else none) else σ[j]?
  | [], j => by simp [L2.wipe]
  | v :: vs, j => by
    have ih := wipe_get σ vs j
    show ((L2.wipe σ vs).set v none)[j]? = _
    by_cases e : j = v
    · subst e
      rw [if_pos List.mem_cons_self]
      by_cases hl : j < σ.length
      · rw [if_pos hl, List.getElem?_set_self (by rw [L2.wipe_length]; exact hl)]
      · rw [if_neg hl, List.getElem?_eq_none (by rw [List.length_set, L2.wipe_length]; omega)]
    · rw [List.getElem?_set_ne (Ne.symm e), ih]
      by_cases hm : j ∈ vs
      · rw [if_pos hm, if_pos (List.mem_cons_of_mem _ hm)]
      · rw [if_neg hm, if_neg (fun z => (List.mem_cons.mp z).elim e hm)]
theorem wipe_but {σ σ' : L2.St} {sl vs : List Nat} (h : But sl (L2.wipe σ vs) σ') (hs : ∀ j ∈ sl, j ∈ vs) : L2.wipe σ' vs = L2.wipe σ vs := by
  refine List.ext_getElem? fun j => ?_
  rw [wipe_get, wipe_get]
  have hl : σ'.length = σ.length := h.1.trans (L2.wipe_length σ vs)
  by_cases hm : j ∈ vs
  · rw [if_pos hm, if_pos hm, hl]
  · rw [if_neg hm, if_neg hm, h.2 j fun z => hm (hs j z), wipe_get, if_neg hm]
theorem unwipe_get (ρ1 ρ2 : Ev) : ∀ (vs : List Nat) (j : Nat) (s : Sl), (unwipe ρ1 ρ2 vs)[j]? = some s → (j ∈ vs ∧ (s = .no ∨ ρ1[j]? = some s)) ∨ (j ∉ vs ∧ ρ2[j]? = some s)
  | [], j, s, h => .inr ⟨List.not_mem_nil, h⟩
  | v :: vs, j, s, h => by
    rcases get_set (show ((unwipe ρ1 ρ2 vs).set v (ρ1[v]?.getD .no))[j]? = some s from h) with ⟨e1, e2⟩ | ⟨hj, e⟩
    · subst e1
      left
      refine ⟨List.mem_cons_self, ?_⟩
      cases hy : ρ1[j]? with
      | none => rw [hy] at e2; exact .inl e2
      | some t => rw [hy] at e2; exact .inr (by rw [e2]; rfl)
    · rcases unwipe_get ρ1 ρ2 vs j s e with ⟨h1, h2⟩ | ⟨h1, h2⟩
      · exact .inl ⟨List.mem_cons_of_mem _ h1, h2⟩
      · exact .inr ⟨fun z => (List.mem_cons.mp z).elim hj h1, h2⟩
theorem unwipe_length (ρ1 ρ2 : Ev) : ∀ vs : List Nat, (unwipe ρ1 ρ2 vs).length = ρ2.length
  | [] => rfl
  | v :: vs => by
    show ((unwipe ρ1 ρ2 vs).set v _).length = _
    rw [List.length_set, unwipe_length ρ1 ρ2 vs]
theorem sim_unwipe {vs : List Nat} (S1 : Sim K p0 M1 σ H1 ρ1) (S2 : Sim K p0 M' (L2.wipe σ vs) H' ρ2) (st : Step M1 (Wr σ ρ1) H1 M' H') (no : ∀ j ∈ vs, ownS ρ1[j]? = none) :
    Sim K p0 M' σ H' (unwipe ρ1 ρ2 vs) ∧ ∀ a, Wr σ (unwipe ρ1 ρ2 vs) a → Wr (L2.wipe σ vs) ρ2 a := by
  have k : Keep M1 H1 M' H' := st.keep fun p h => S1.hot h
  have old : ∀ {j : Nat} {d : D}, ((unwipe ρ1 ρ2 vs)[j]? = some (.ow d) ∨ (unwipe ρ1 ρ2 vs)[j]? = some (.io d)) → j ∉ vs ∧ (ρ2[j]? = some (.ow d) ∨ ρ2[j]? = some (.io d)) := fun {j d} h => by
    rcases h with h | h
    · rcases unwipe_get ρ1 ρ2 vs j _ h with ⟨hm, e | e⟩ | ⟨hm, e⟩
      · cases e
      · have z := no j hm
        rw [e] at z
        cases z
      · exact ⟨hm, .inl e⟩
    · rcases unwipe_get ρ1 ρ2 vs j _ h with ⟨hm, e | e⟩ | ⟨hm, e⟩
      · cases e
      · have z := no j hm
        rw [e] at z
        cases z
      · exact ⟨hm, .inr e⟩
  have out : ∀ {j : Nat} {w : V}, j ∉ vs → σ[j]? = some (some w) → (L2.wipe σ vs)[j]? = some (some w) := fun {j w} hm h => by rw [wipe_get, if_neg hm]; exact h
  refine ⟨⟨by rw [unwipe_length, S2.len, L2.wipe_length], fun j d e => ?_, fun j d e => ?_, fun j d e => ?_, fun j l d e q h1 h2 h3 h4 => ?_, S2.mok, S2.p0k, S2.tabs⟩, fun a ⟨j, d, h1, h2⟩ => ⟨j, d, (old h1).2, out (old h1).1 h2⟩⟩
  · rcases unwipe_get ρ1 ρ2 vs j _ e with ⟨hm, e | e⟩ | ⟨hm, e⟩
    · cases e
    · obtain ⟨u, e1, r⟩ := S1.va j d e
      exact ⟨u, e1, r.keep k⟩
    · obtain ⟨u, e1, r⟩ := S2.va j d e
      exact ⟨u, (L2.wipe_some e1).1, r⟩
  · obtain ⟨hm, e' | e'⟩ := old (.inl e)
    · obtain ⟨q, e1, m, o, n⟩ := S2.ow j d e'
      exact ⟨q, (L2.wipe_some e1).1, m, o, n⟩
    · rcases unwipe_get ρ1 ρ2 vs j _ e with ⟨hm2, _⟩ | ⟨_, e2⟩
      · exact absurd hm2 hm
      · rw [e'] at e2; cases e2
  · obtain ⟨hm, e' | e'⟩ := old (.inr e)
    · rcases unwipe_get ρ1 ρ2 vs j _ e with ⟨hm2, _⟩ | ⟨_, e2⟩
      · exact absurd hm2 hm
      · rw [e'] at e2; cases e2
    · obtain ⟨q, e1, m, o, n⟩ := S2.io j d e'
      exact ⟨q, (L2.wipe_some e1).1, m, o, n⟩
  · exact S2.inj j l d e q (old h1).2 (old h2).2 (out (old h1).1 h3) (out (old h2).1 h4)
/-- a hot thing that nobody holds stays as it is -/
theorem hot_kept {σ' : L2.St} {D : Addr} (S : Sim K p0 M σ H ρ) (P : Post K p0 M σ H ρ M' σ' H' ρ1) (m : M D) (nw : ¬ Wr σ ρ D) (o : Own K M H D x) : M' D ∧ ¬ Wr σ' ρ1 D ∧ Own K M' H' D x :=
  ⟨P.step.kp D m nw, fun z => (P.wr D z).elim nw o.some, o.keep (P.keep S) fun u e t => P.step.fr D u e nw t⟩
/-- it is changed -/
theorem mut_hot {D : Addr} {o : HO} (S : Sim K p0 M σ H ρ) (m : M D) (nw : ¬ Wr σ ρ D) (nt : ∀ ps, H D ≠ some (.tbl ps)) : Sim K p0 M σ (upd H D o) ρ := by
  have k : Keep M H M (upd H D o) := fun a u e n _ => ⟨by rw [upd_cold m n]; exact e, n⟩
  have dom : ∀ a, H a ≠ none → upd H D o a ≠ none := fun a ha => by
    by_cases e : a = D
    · rw [e, upd_same]; exact fun z => nomatch z
    · rw [upd_ne e]; exact ha
  have nd : ∀ {j : Nat} {d : DL.D} {q : Addr}, (ρ[j]? = some (.ow d) ∨ ρ[j]? = some (.io d)) → σ[j]? = some (some (.ref q)) → q ≠ D := fun {j d q} h1 h2 e => nw (e ▸ ⟨j, d, h1, h2⟩)
  refine ⟨S.len, fun j d e => ?_, fun j d e => ?_, fun j d e => ?_, S.inj, fun a z => dom a (S.mok a z), fun q e => dom q (S.p0k q e), fun q e => tab_upd nt q (S.tabs q e)⟩
  · obtain ⟨u, e1, r⟩ := S.va j d e
    exact ⟨u, e1, r.keep k⟩
  · obtain ⟨q, e1, mq, oo, n⟩ := S.ow j d e
    exact ⟨q, e1, mq, oo.keep k fun u z _ => by rw [upd_ne (nd (.inl e) e1)]; exact z, n⟩
  · obtain ⟨q, e1, mq, oo, n⟩ := S.io j d e
    exact ⟨q, e1, mq, oo.keep k fun u z _ => by rw [upd_ne (nd (.inr e) e1)]; exact z, n⟩
end

/-! ### comprehensions -/
def bYes : BT := fun ρ q _ => q true ρ
structure DTs (X : Cx) (p0 : Amb) (W : WX) (ifs : List Expr) (t : BT) : Prop where
  pts : PTs X ifs (liftB X.K p0 W t)
theorem PTs.imp {X : Cx} {e : List Expr} {t u : TT} (h : PTs X e t) (i : ∀ σ H Q, u σ H Q → t σ H Q) : PTs X e u := ⟨fun pins s σ H Q I hu => h.run pins s σ H Q I (i σ H Q hu)⟩
theorem dts_nil {X : Cx} {p : Amb} {W : WX} : DTs X p W [] bYes := ⟨PTs.imp pts_nil fun σ H Q ⟨M, ρ, q, x, S, h, hq, _⟩ => hq true M H ρ (Post.refl S) (Slots.refl ρ) h⟩
theorem dts_one {X : Cx} {p : Amb} {W : WX} {c : Expr} {t : BT} (h : DB X p W c t) : DTs X p W [c] t := ⟨pts_one h.pt⟩
/-- [e for target in iter if ..]: P by the turn, what is made, the slots -/
def tLc' (ti : IT) (g : GT) (tt : BT) (te : ET) (vs : List Nat) : ET := fun ρ q x => ti ρ (fun ds ρ1 => (vs.all fun v => (ownS ρ1[v]?).isNone) = true ∧ ∃ P : Nat → List D → Ev → Prop, P 0 [] (wipeE ρ1 vs) ∧
  (∀ i d acc ρ2, ds[i]? = some d → P i acc ρ2 → g d ρ2 fun ρ3 => tt ρ3 (fun b ρ4 => if b = true then te ρ4 (fun r ρ5 => some! (settle ρ5 r) fun z => acc.length < sizeLine ∧ P (i + 1) (acc ++ [z.1]) (wipeE z.2 vs)) xNo else P (i + 1) acc (wipeE ρ4 vs)) xNo) ∧
  (∀ acc ρ2, P ds.length acc ρ2 → q (.n (.lst acc)) (unwipe ρ1 ρ2 vs))) x
theorem tLc_ok {X : Cx} {p : Amb} {W : WX} {ti : IT} {g : GT} {tt : BT} {te : ET} {vs sl : List Nat} (hsl : ∀ j ∈ sl, j ∈ vs) {σ : L2.St} {H : Hp} {Q : VK} (h : lift X.K p W (tLc' ti g tt te vs) σ H Q) :
    tLc (liftI X.K p W ti) (liftG X.K p sl g) (liftB X.K p wNo tt) (lift X.K p wNo te) vs σ H Q := by
  obtain ⟨M, ρ, q, xq, S, ht, hq, hx⟩ := h
  refine ⟨M, ρ, _, _, S, ht, fun J M1 H1 ρ1 ds P1 it h1 D hD => ?_, hx⟩
  obtain ⟨hno, P, w0, step, fin⟩ := h1
  have no : ∀ j ∈ vs, ownS ρ1[j]? = none := fun j hj => Option.isNone_iff_eq_none.mp (List.all_eq_true.mp hno j hj)
  obtain ⟨Sw, ww⟩ := P1.sim.wipe vs
  have R0 := ResOk.lst (K := X.K) (xs := []) (ds := []) P1.sim.mok hD .nil
  have nw0 : ¬ Wr σ ρ1 D := fun z => P1.sim.mok D (P1.sim.hot z) hD
  refine ⟨fun i m H' => i + m = ds.length ∧ ∃ M' ρ' acc, Sim X.K p M' (L2.wipe σ vs) H' ρ' ∧ Step M1 (Wr σ ρ1) H1 M' H' ∧ (∀ a, Wr (L2.wipe σ vs) ρ' a → Wr σ ρ1 a ∨ H1 a = none) ∧ M' D ∧ ¬ Wr (L2.wipe σ vs) ρ' D ∧ Own X.K M' H' D (.lst acc) ∧ P i acc ρ',
    ⟨ds.length, Nat.zero_add _, _, wipeE ρ1 vs, [], Sw.more R0.step R0.mok, R0.step.weak fun _ z => z.elim, fun a z => .inl (ww a z), .inr rfl, fun z => nw0 (ww D z), ⟨[], upd_same, .nil⟩, w0⟩, ?_⟩
  rintro i m H2 ⟨em, M2, ρ2, acc, S2, st2, wr2, mD, nwD, oD, w2⟩
  obtain ⟨go, stop⟩ := it M2 H2 (st2.keep fun a z => P1.sim.hot z) S2.mok
  by_cases hl : i < ds.length
  · right
    obtain ⟨gi, yi⟩ := go i _ (List.getElem?_eq_getElem hl)
    refine ⟨gi, fun H' => ∃ M' ρ' acc, Sim X.K p M' (L2.wipe σ vs) H' ρ' ∧ Step M1 (Wr σ ρ1) H1 M' H' ∧ (∀ a, Wr (L2.wipe σ vs) ρ' a → Wr σ ρ1 a ∨ H1 a = none) ∧ M' D ∧ ¬ Wr (L2.wipe σ vs) ρ' D ∧ Own X.K M' H' D (.lst acc) ∧ P (i + 1) acc ρ', fun H' z => ⟨m - 1, by omega, by omega, z⟩, fun x H3 y => ?_⟩
    obtain ⟨M3, st3, mok3, R3⟩ := yi x H3 y
    have P3 := S2.post st3 mok3
    refine ⟨M3, ρ2, _, _, P3.sim, R3, step i _ acc ρ2 (List.getElem?_eq_getElem hl) w2, fun M4 σ4 H4 ρ4 P4 B4 h4 => ?_⟩
    have ew := wipe_but B4 hsl
    refine ⟨ew, M4, ρ4, _, _, P4.sim, h4, fun b M5 H5 ρ5 P5 S5 h5 => ?_, fun c M5 H5 ρ5 P5 h5 => h5⟩
    have P35 := (P3.trans S2 P4).trans S2 P5
    -- the turn's end: everything from M2 on
    have close : ∀ {M6 : Addr → Prop} {H6 : Hp} {ρ6 : Ev}, Post X.K p M2 (L2.wipe σ vs) H2 ρ2 M6 σ4 H6 ρ6 → Sim X.K p M6 (L2.wipe σ vs) H6 (wipeE ρ6 vs) ∧ Step M1 (Wr σ ρ1) H1 M6 H6 ∧ (∀ a, Wr (L2.wipe σ vs) (wipeE ρ6 vs) a → Wr σ ρ1 a ∨ H1 a = none) ∧ M6 D ∧ ¬ Wr (L2.wipe σ vs) (wipeE ρ6 vs) D ∧ Own X.K M6 H6 D (.lst acc) := fun {M6 H6 ρ6} P6 => by
      obtain ⟨Sx, wx⟩ := P6.sim.wipe vs
      rw [ew] at Sx wx
      obtain ⟨k1, k2, k3⟩ := hot_kept S2 P6 mD nwD oD
      refine ⟨Sx, st2.trans P6.step wr2 P1.sim.mok, fun a z => ?_, k1, fun z => k2 (wx D z), k3⟩
      rcases P6.wr a (wx a z) with z | z
      · exact wr2 a z
      · exact .inr (dom_back st2.dom z)
    cases b with
    | false =>
      rw [if_neg Bool.false_ne_true] at h5
      refine iteF ?_
      obtain ⟨a1, a2, a3, a4, a5, a6⟩ := close P35
      exact ⟨M5, _, acc, a1, a2, a3, a4, a5, a6, h5⟩
    | true =>
      rw [if_pos rfl] at h5
      refine iteT ⟨M5, ρ5, _, _, P5.sim, h5, fun v M6 H6 ρ6 r P6 S6 R6 h6 => ?_, fun c M6 H6 ρ6 P6 h6 => h6⟩
      obtain ⟨⟨d, ρ7⟩, e7, hz, h7⟩ := some!_ok h6
      obtain ⟨M7, P7, S7, R7⟩ := settleN_ok P5.sim P6 R6 e7
      obtain ⟨a1, a2, a3, a4, a5, avs, ah, ar⟩ := close (P35.trans S2 P7)
      refine ⟨avs, ah, by rw [ar.length]; exact hz, M7, _, acc ++ [d], mut_hot a1 a4 a5 (fun ps z => by rw [ah] at z; cases z), ⟨fun b u e n t => ?_, a2.sub, a2.kp, fun b hb => ?_, fun q z => tab_upd (fun ps z => by rw [ah] at z; cases z) q (a2.tb q z)⟩, a3, a4, a5, ⟨_, upd_same, ?_⟩, h7⟩
      · have nb : b ≠ D := fun z => by rw [z, hD] at e; cases e
        rw [upd_ne nb]
        exact a2.fr b u e n t
      · by_cases e : b = D
        · rw [e, upd_same]; exact fun z => nomatch z
        · rw [upd_ne e]; exact a2.dom b hb
      · have kk : Keep M7 H6 M7 (upd H6 D (.lst (avs ++ [v]))) := fun b w e n _ => ⟨by rw [upd_cold a4 n]; exact e, n⟩
        exact (ar.keep kk).append (.cons (R7.keep kk) .nil)
  · left
    have ei : i = ds.length := by omega
    subst ei
    refine ⟨stop, ?_⟩
    obtain ⟨Su, wu⟩ := sim_unwipe P1.sim S2 st2 no
    have P2 : Post X.K p M1 σ H1 ρ1 M2 σ H2 (unwipe ρ1 ρ2 vs) := ⟨Su, st2, fun a z => wr2 a (wu a z)⟩
    refine hq (.ref D) M2 H2 _ (.n (.lst acc)) (P1.trans S P2) trivial ⟨D, rfl, mD, fun z => nwD (wu D z), dom_back P1.step.dom hD, oD⟩ (fin acc ρ2 w2)
end DL

set_option Elab.async false
set_option linter.all false
set_option maxRecDepth 100000
set_option maxHeartbeats 4000000
namespace DL
open PySem PySem.Spec PyProof.Rows L2
section
variable {X : Cx} {p : Amb} {W : WX}
theorem de_lc {elt tg iter : Expr} {ifs : List Expr} {scope : Scope} {own : List (Str × Nat)} {pos : Pos} {ti : IT} {g : GT} {tt : BT} {te : ET} {sl : List Nat} (hc : X.calm = true) (hN : X.N.Nodup) (hi : DI X p W tg iter ti) (ok : BlkOk X.N X.env.scope scope own)
    (hg : ∀ (s : Shared) (H : Hp) (C : Addr) (cl : List (Str × Addr)) (fp : List Addr), DG (X.blk s H scope (compEnvC scope cl C X.env) fp) p tg sl g) (ht : ∀ (s : Shared) (H : Hp) (C : Addr) (cl : List (Str × Addr)) (fp : List Addr), DTs (X.blk s H scope (compEnvC scope cl C X.env) fp) p wNo ifs tt)
    (he : ∀ (s : Shared) (H : Hp) (C : Addr) (cl : List (Str × Addr)) (fp : List Addr), DE (X.blk s H scope (compEnvC scope cl C X.env) fp) p wNo elt te) (hsl : (sl.all fun j => (own.map (·.2)).contains j) = true) (hs : ∀ x, foldedSetIterable iter X.env x = pure x := by intro _; rfl) :
    DE X p W (.ListComp elt [⟨tg, iter, ifs, 0⟩] scope pos) (tLc' ti g tt te (own.map (·.2))) :=
  ⟨PE.imp (pe_lc hc hN hi.pi ok (fun s H C cl fp => (hg s H C cl fp).pg) (fun s H C cl fp => (ht s H C cl fp).pts) (fun s H C cl fp => (he s H C cl fp).pe) hs) fun _ _ _ h => tLc_ok (fun j hj => by simpa using List.all_eq_true.mp hsl j hj) h⟩
theorem ds_setLc {i : Nat} {y : Str} {py : Pos} {elt tg iter : Expr} {ifs : List Expr} {scope : Scope} {own : List (Str × Nat)} {pos spos : Pos} {ti : IT} {g : GT} {tt : BT} {te : ET} {sl : List Nat} (hc : X.calm = true) (hN : X.N.Nodup) (hy : X.N[i]? = some y) (hyl : X.env.scope.names.lookup y = some .local)
    (hsw : swapsWith (.ListComp elt [⟨tg, iter, ifs, 0⟩] scope pos) (some (.Name y py)) spos.line X.env = pure true) (hi : DI X p W tg iter ti) (ok : BlkOk X.N X.env.scope scope own)
    (hg : ∀ (s : Shared) (H : Hp) (C : Addr) (cl : List (Str × Addr)) (fp : List Addr), DG (X.blk s H scope (compEnvC scope cl C X.env) fp) p tg sl g) (ht : ∀ (s : Shared) (H : Hp) (C : Addr) (cl : List (Str × Addr)) (fp : List Addr), DTs (X.blk s H scope (compEnvC scope cl C X.env) fp) p wNo ifs tt)
    (he : ∀ (s : Shared) (H : Hp) (C : Addr) (cl : List (Str × Addr)) (fp : List Addr), DE (X.blk s H scope (compEnvC scope cl C X.env) fp) p wNo elt te) (hsl : (sl.all fun j => (own.map (·.2)).contains j) = true) (hs : ∀ x, foldedSetIterable iter X.env x = pure x := by intro _; rfl) :
    DS X p W (.Assign [.Name y py] (.ListComp elt [⟨tg, iter, ifs, 0⟩] scope pos) spos) (sSet i (tLc' ti g tt te (own.map (·.2)))) :=
  ⟨PS.imp (ps_setLc hc hN hy hyl hsw hi.pi ok (fun s H C cl fp => (hg s H C cl fp).pg) (fun s H C cl fp => (ht s H C cl fp).pts) (fun s H C cl fp => (he s H C cl fp).pe) hs) fun D σ H ⟨M, ρ, e, S, h, l⟩ => by
    refine tLc_ok (p := p) (W := W) (fun j hj => by simpa using List.all_eq_true.mp hsl j hj) ⟨M, ρ, _, _, S, h, fun v M1 H1 ρ1 r P1 _ R1 h1 => ?_, fun c M1 H1 ρ1 P1 h1 => l.xc c M1 σ H1 ρ1 P1 h1⟩
    obtain ⟨ρ2, e1, h2⟩ := some!_ok h1
    obtain ⟨M2, P2⟩ := store_ok (i := i) S P1 R1 e1
    exact l.nx M2 _ H1 ρ2 P2 h2⟩
end

/-! ### defs -/
/-- a def's promise over data: the arguments, what is wanted of the result, of an exception of the class at c -/
abbrev PSp := List D → (RV → Prop) → (Addr → Prop) → Prop
def liftSp (K : PySem.W.Frag) (T : Addr → Prop) (sp : PSp) : Sp := fun vs H Q E => (∀ a, T a → GxR.TabG H a) ∧ ∃ (M : Addr → Prop) (ds : List D) (q : RV → Prop) (x : Addr → Prop), (∀ a, M a → H a ≠ none) ∧ RepL K M H vs ds ∧ sp ds q x ∧
  (∀ v M' H' r, ResOk K M H M' H' v r → q r → Q v H') ∧ (∀ c M' H', Step M Nil H M' H' → (∀ a, M' a → H' a ≠ none) → x c → E (.ref c) none H')
/-- .. the first argument is the caller's own thing, changed -/
abbrev PSpIO := D → List D → (RV → D → Prop) → (Addr → D → Prop) → Prop
structure IoOk (K : PySem.W.Frag) (M : Addr → Prop) (H : Hp) (p : Addr) (M' : Addr → Prop) (H' : Hp) (y : D) : Prop where
  step : Step M (fun a => a = p) H M' H'
  mok : ∀ a, M' a → H' a ≠ none
  hot : M' p
  own : Own K M' H' p y
def liftIO (K : PySem.W.Frag) (T : Addr → Prop) (sp : PSpIO) : Sp := fun vs H Q E => (∀ a, T a → GxR.TabG H a) ∧ ∃ (p : Addr) (vs' : List V) (M : Addr → Prop) (d : D) (ds : List D) (q : RV → D → Prop) (x : Addr → D → Prop), vs = .ref p :: vs' ∧ M p ∧ Own K M H p d ∧ (∀ a, M a → H a ≠ none) ∧ RepL K M H vs' ds ∧ sp d ds q x ∧
  (∀ v M' H' r y, IoOk K M H p M' H' y → (match r with
    | .d x => Rep K M' H' v x
    | .n x => ∃ a, v = .ref a ∧ H a = none ∧ M' a ∧ a ≠ p ∧ Own K M' H' a x
    | .o _ => False) → q r y → Q v H') ∧ (∀ c M' H' y, IoOk K M H p M' H' y → x c y → E (.ref c) none H')
def startE (N : List Str) (ds : List D) : Ev := ds.map Sl.va ++ List.replicate (N.length - ds.length) Sl.no
def startIO (N : List Str) (d : D) (ds : List D) : Ev := (Sl.io d :: ds.map Sl.va) ++ List.replicate (N.length - (ds.length + 1)) Sl.no
theorem start_get {N : List Str} {vs : List V} {i : Nat} {v : V} (h : vs[i]? = some v) : (L2.start N vs)[i]? = some (some v) := by
  unfold L2.start
  have hl : i < vs.length := (List.getElem?_eq_some_iff.mp h).1
  rw [List.getElem?_append_left (by rw [List.length_map]; exact hl), List.getElem?_map, h]
  rfl
theorem noRep {n i : Nat} {s : Sl} (h : (List.replicate n Sl.no)[i]? = some s) : s = .no := by
  rw [List.getElem?_replicate] at h
  split at h
  · cases h; rfl
  · cases h
theorem start_sim {K : PySem.W.Frag} {M : Addr → Prop} {H : Hp} {N : List Str} {vs : List V} {ds : List D} {T : Addr → Prop} (ht : ∀ a, T a → GxR.TabG H a) (mok : ∀ a, M a → H a ≠ none) (r : RepL K M H vs ds) : Sim K ⟨none, T⟩ M (L2.start N vs) H (startE N ds) ∧ ∀ a, ¬ Wr (L2.start N vs) (startE N ds) a := by
  have key : ∀ {i : Nat} {s : Sl}, (startE N ds)[i]? = some s → s = .no ∨ ∃ d, ds[i]? = some d ∧ s = .va d := fun {i s} h => by
    unfold startE at h
    by_cases hl : i < ds.length
    · rw [List.getElem?_append_left (by rw [List.length_map]; exact hl), List.getElem?_map, List.getElem?_eq_getElem hl] at h
      cases h
      exact .inr ⟨_, List.getElem?_eq_getElem hl, rfl⟩
    · rw [List.getElem?_append_right (by rw [List.length_map]; omega)] at h
      exact .inl (noRep h)
  have no : ∀ {i : Nat} {d : D}, ¬ ((startE N ds)[i]? = some (.ow d) ∨ (startE N ds)[i]? = some (.io d)) := fun {i d} h => by
    rcases h with h | h <;> rcases key h with e | ⟨_, _, e⟩ <;> cases e
  refine ⟨⟨?_, fun i d h => ?_, fun i d h => (no (.inl h)).elim, fun i d h => (no (.inr h)).elim, fun i j d e q h1 h2 => (no h1).elim, mok, (fun q e => nomatch e), ht⟩, fun a ⟨j, d, h1, h2⟩ => no h1⟩
  · unfold startE L2.start
    rw [List.length_append, List.length_append, List.length_map, List.length_map, List.length_replicate, List.length_replicate, r.length]
  · rcases key h with e | ⟨d', hd, e⟩
    · cases e
    · cases e
      obtain ⟨v, hv, rv⟩ := r.get hd
      exact ⟨v, start_get hv, rv⟩
theorem startIO_sim {K : PySem.W.Frag} {M : Addr → Prop} {H : Hp} {N : List Str} {p : Addr} {vs : List V} {d : D} {ds : List D} {T : Addr → Prop} (ht : ∀ a, T a → GxR.TabG H a) (mp : M p) (o : Own K M H p d) (mok : ∀ a, M a → H a ≠ none) (r : RepL K M H vs ds) :
    Sim K ⟨some p, T⟩ M (L2.start N (.ref p :: vs)) H (startIO N d ds) ∧ ∀ a, Wr (L2.start N (.ref p :: vs)) (startIO N d ds) a → a = p := by
  have h0 : (L2.start N (.ref p :: vs))[0]? = some (some (.ref p)) := start_get rfl
  have key : ∀ {i : Nat} {s : Sl}, (startIO N d ds)[i]? = some s → s = .no ∨ (i = 0 ∧ s = .io d) ∨ ∃ j e, i = j + 1 ∧ ds[j]? = some e ∧ s = .va e := fun {i s} h => by
    cases i with
    | zero => cases h; exact .inr (.inl ⟨rfl, rfl⟩)
    | succ j =>
      have h : (ds.map Sl.va ++ List.replicate (N.length - (ds.length + 1)) Sl.no)[j]? = some s := h
      by_cases hl : j < ds.length
      · rw [List.getElem?_append_left (by rw [List.length_map]; exact hl), List.getElem?_map, List.getElem?_eq_getElem hl] at h
        cases h
        exact .inr (.inr ⟨j, _, rfl, List.getElem?_eq_getElem hl, rfl⟩)
      · rw [List.getElem?_append_right (by rw [List.length_map]; omega)] at h
        exact .inl (noRep h)
  have now : ∀ {i : Nat} {e : D}, (startIO N d ds)[i]? ≠ some (.ow e) := fun {i e} h => by
    rcases key h with e | ⟨_, e⟩ | ⟨_, _, _, _, e⟩ <;> cases e
  have io0 : ∀ {i : Nat} {e : D}, (startIO N d ds)[i]? = some (.io e) → i = 0 ∧ e = d := fun {i e} h => by
    rcases key h with e | ⟨h0, e⟩ | ⟨_, _, _, _, e⟩
    · cases e
    · cases e; exact ⟨h0, rfl⟩
    · cases e
  refine ⟨⟨?_, fun i e h => ?_, fun i e h => (now h).elim, fun i e h => ?_, fun i j e f q h1 h2 _ _ => ?_, mok, (fun q e => by cases e; exact o.some), ht⟩, fun a ⟨j, e, h1, h2⟩ => ?_⟩
  · unfold startIO L2.start
    rw [List.length_append, List.length_append, List.length_map, List.length_replicate, List.length_replicate, List.length_cons, List.length_cons, List.length_map, r.length]
  · rcases key h with e1 | ⟨_, e1⟩ | ⟨j, e', rfl, hd, e1⟩
    · cases e1
    · cases e1
    · cases e1
      obtain ⟨v, hv, rv⟩ := r.get hd
      exact ⟨v, start_get (vs := .ref p :: vs) (i := j + 1) hv, rv⟩
  · obtain ⟨rfl, rfl⟩ := io0 h
    exact ⟨p, h0, mp, o, rfl⟩
  · rcases h1 with h1 | h1
    · exact (now h1).elim
    · rcases h2 with h2 | h2
      · exact (now h2).elim
      · rw [(io0 h1).1, (io0 h2).1]
  · rcases h1 with h1 | h1
    · exact (now h1).elim
    · rw [(io0 h1).1, h0] at h2
      cases h2
      rfl
def ioS : Option Sl → Option D
  | some (.io d) => some d
  | _ => none
section
variable {P : Program} {w : World} {K : PySem.W.Frag} {mg : Str → Option Value} {base : Heap}
/-- as Fun.okX, the exceptions' contexts None -/
theorem okN {x qual : Str} {st : Stmt} {f : Addr} {fd : FuncData} {N ps : List Str} {k : Nat} {sp : Sp} (F : Fun K x qual st f fd) (S : FnScope N ps (defScope st)) (len : ∀ vs H Q E, sp vs H Q E → vs.length = ps.length)
    (hb : ∀ (cdv : Value) (A : Around) (outer : List Env) (s : Shared) (H : Hp) (vs : List V) (Q : VK) (E : XK), Room k (A.deeper (envOfC qual (defScope st) s.heap.objs.size f cdv)) → sp vs H Q E →
      ∃ t, PSs (cxOf (L2N.CX P w) P w K mg base N qual (defScope st) f cdv A outer s H E) (defBody st) t ∧ t { nx := fun _ H' => Q .non H', rt := Q } (L2.start N vs) H) : FnOk P w K mg base (L2N.CX P w) (k + 1) f fd ps sp := by
  obtain ⟨oc, od, kV, doc, pm, an, cdv, ct, osl, rfl, lk, hcd⟩ := F.ex
  exact fn_of lk hcd S len fun A outer s H vs Q E hr h => hb cdv A outer s H vs Q E hr h
theorem fn_ok {T : Addr → Prop} {x qual : Str} {st : Stmt} {f : Addr} {fd : FuncData} {N ps : List Str} {k : Nat} {sp : PSp} {t : ST} (F : Fun K x qual st f fd) (S : FnScope N ps (defScope st)) (len : ∀ ds q x, sp ds q x → ds.length = ps.length)
    (hbody : ∀ (cdv : Value) (A : Around) (outer : List Env) (s : Shared) (H : Hp) (E : XK), Room k (A.deeper (envOfC qual (defScope st) s.heap.objs.size f cdv)) →
      DSs (cxOf (L2N.CX P w) P w K mg base N qual (defScope st) f cdv A outer s H E) ⟨none, T⟩ (fun c d _ H => E c d H) (defBody st) t)
    (hsp : ∀ ds q x, sp ds q x → t ⟨fun _ => q (.d .non), fun r _ => q r, fun _ => False, fun _ => False, fun c _ => x c⟩ (startE N ds)) : FnOk P w K mg base (L2N.CX P w) (k + 1) f fd ps (liftSp K T sp) := by
  refine okN F S (fun vs H Q E ⟨_, M, ds, q, x, mok, r, h, _⟩ => r.length.trans (len ds q x h)) fun cdv A outer s H vs Q E hr ⟨ht, M, ds, q, x, mok, r, h, k1, k2⟩ => ?_
  refine ⟨_, (hbody cdv A outer s H E hr).pss, ?_⟩
  obtain ⟨S0, nw⟩ := start_sim (N := N) ht mok r
  have st0 : ∀ {M' : Addr → Prop} {H' : Hp}, Step M (Wr (L2.start N vs) (startE N ds)) H M' H' → Step M Nil H M' H' := fun s => s.weak fun a z => nw a z
  refine ⟨M, startE N ds, _, S0, hsp ds q x h, ⟨fun M' σ' H' ρ' P' h' => k1 .non M' H' (.d .non) ⟨st0 P'.step, P'.sim.mok, Rep.non⟩ h', fun _ _ _ _ _ z => z.elim, fun _ _ _ _ _ z => z.elim, fun v M' σ' H' ρ' r' P' R' h' => k1 v M' H' r' ⟨st0 P'.step, P'.sim.mok, ?_⟩ h', fun c M' σ' H' ρ' P' h' => k2 c M' H' (st0 P'.step) P'.sim.mok h'⟩⟩
  cases r' with
  | d y => exact R'
  | n y =>
    obtain ⟨a, e, m, o, z, _⟩ := R'
    exact ⟨a, e, z.elim id fun z => (nw a z).elim, m, o⟩
  | o _ => exact R'
theorem fn_okIO {T : Addr → Prop} {x qual : Str} {st : Stmt} {f : Addr} {fd : FuncData} {N ps : List Str} {k : Nat} {sp : PSpIO} {t : ST} (F : Fun K x qual st f fd) (S : FnScope N ps (defScope st)) (len : ∀ d ds q x, sp d ds q x → ds.length + 1 = ps.length)
    (hbody : ∀ (p : Addr) (cdv : Value) (A : Around) (outer : List Env) (s : Shared) (H : Hp) (E : XK), Room k (A.deeper (envOfC qual (defScope st) s.heap.objs.size f cdv)) →
      DSs (cxOf (L2N.CX P w) P w K mg base N qual (defScope st) f cdv A outer s H E) ⟨some p, T⟩ (fun c d _ H => E c d H) (defBody st) t)
    (hsp : ∀ d ds q x, sp d ds q x → t ⟨fun ρ => some! (ioS ρ[0]?) fun y => q (.d .non) y, fun r ρ => some! (ioS ρ[0]?) fun y => q r y, fun _ => False, fun _ => False, fun c ρ => some! (ioS ρ[0]?) fun y => x c y⟩ (startIO N d ds)) : FnOk P w K mg base (L2N.CX P w) (k + 1) f fd ps (liftIO K T sp) := by
  refine okN F S (fun vs H Q E ⟨_, p, vs', M, d, ds, q, x, e, _, _, _, r, h, _⟩ => by rw [e, List.length_cons, r.length]; exact len d ds q x h) fun cdv A outer s H vs Q E hr ⟨ht, p, vs', M, d, ds, q, x, e, mp, o, mok, r, h, k1, k2⟩ => ?_
  subst e
  refine ⟨_, (hbody p cdv A outer s H E hr).pss, ?_⟩
  obtain ⟨S0, nw⟩ := startIO_sim (N := N) ht mp o mok r
  have io : ∀ {M' : Addr → Prop} {σ' : L2.St} {H' : Hp} {ρ' : Ev} {y : D}, Post K ⟨some p, T⟩ M (L2.start N (.ref p :: vs')) H (startIO N d ds) M' σ' H' ρ' → ioS ρ'[0]? = some y → IoOk K M H p M' H' y := fun {M' σ' H' ρ' y} P' h' => by
    cases hy : ρ'[0]? with
    | none => rw [hy] at h'; cases h'
    | some sl =>
      rw [hy] at h'
      cases sl with
      | io z =>
        cases h'
        obtain ⟨q', e1, m, o', e2⟩ := P'.sim.io 0 _ hy
        cases e2
        exact ⟨P'.step.weak nw, P'.sim.mok, m, o'⟩
      | _ => cases h'
  refine ⟨M, startIO N d ds, _, S0, hsp d ds q x h, ⟨fun M' σ' H' ρ' P' h' => ?_, fun _ _ _ _ _ z => z.elim, fun _ _ _ _ _ z => z.elim, fun v M' σ' H' ρ' r' P' R' h' => ?_, fun c M' σ' H' ρ' P' h' => ?_⟩⟩
  · obtain ⟨y, e, h2⟩ := some!_ok h'
    exact k1 .non M' H' (.d .non) y (io P' e) .non h2
  · obtain ⟨y, e, h2⟩ := some!_ok h'
    refine k1 v M' H' r' y (io P' e) ?_ h2
    cases r' with
    | d y => exact R'
    | n y =>
      obtain ⟨a, e, m, o, z, n⟩ := R'
      have na : a ≠ p := fun z => n (by rw [z])
      exact ⟨a, e, z.elim id fun z => (na (nw a z)).elim, m, na, o⟩
    | o _ => exact R'
  · obtain ⟨y, e, h2⟩ := some!_ok h'
    exact k2 c M' H' y (io P' e) h2
end

/-! ### calls -/
def tCall' (sp : PSp) (ta : AT) : ET := fun ρ q x => ta ρ (fun rs ρ1 => some! (settleL ρ1 rs) fun z => sp z.1 (fun r => q r z.2) (fun c => x c z.2)) x
def tCallIO (sp : PSpIO) (ta : AT) : ET := fun ρ q x => ta ρ (fun rs ρ1 => match rs with
  | .o i :: rs' => some! (settleL ρ1 rs') fun z => some! (ownS z.2[i]?) fun d => sp d z.1 (fun r y => q r (put i y z.2)) (fun c y => x c (put i y z.2))
  | _ => False) x
section
variable {X : Cx} {p : Amb} {W : WX} {k : Nat} {f : Addr} {fd : FuncData} {ps : List Str} {x : Str} {pp pos : Pos} {e : Expr} {es : List Expr} {t : AT}
theorem de_call {sp : PSp} (F : FnOk X.prog X.w X.K X.mg X.base (L2N.CX X.prog X.w) k f fd ps (liftSp X.K p.tb sp)) (tk : L2N.Takes X W) (hr : Room k X.A) (hg : Gl X x) (hm : X.mg x = some (.ref f)) (hk : PySem.W.keepIn X.K (.ref f) = true) (hb : Binds X.K fd ps [])
    (ha : DA X p W (e :: es) t) (hdb : (x == ("__debug__" : Str)) = false := by decide) (he : starEach (e :: es) X.env = (false, eval e X.env) :: starEach es X.env := by rfl) (hpl : (backTo pos (starEach es X.env)).any (·.1) = false := by rfl) :
    DE X p W (.Call (.Name x pp) (e :: es) [] pos) (tCall' sp t) := ⟨PE.imp (pe_callS F hr hg hm hk hb (fun σ => L2N.passAt tk σ) ha.pa hdb he hpl) fun σ H Q ⟨M, ρ, q, xq, S, ht, hq, hx⟩ => by
  refine ⟨M, ρ, _, _, S, ht, fun vs M1 H1 ρ1 rs P1 S1 R1 h1 => ?_, hx⟩
  obtain ⟨⟨ds, ρ2⟩, e1, h2⟩ := some!_ok h1
  obtain ⟨M2, P2, S2, R2⟩ := settleL_ok P1.sim R1 e1
  have P12 := P1.trans S P2
  refine ⟨P2.sim.tabs, M2, ds, _, _, P2.sim.mok, R2, h2, fun v M' H' r ok h' => ?_, fun c M' H' st mok h' => hx c M' H' ρ2 (P12.trans S (P2.sim.post st mok)) h'⟩
  obtain ⟨P3, R3⟩ := ok.fin S P12
  exact hq v M' H' ρ2 r P3 trivial R3 h'⟩
theorem de_callIO {sp : PSpIO} (F : FnOk X.prog X.w X.K X.mg X.base (L2N.CX X.prog X.w) k f fd ps (liftIO X.K p.tb sp)) (tk : L2N.Takes X W) (hr : Room k X.A) (hg : Gl X x) (hm : X.mg x = some (.ref f)) (hk : PySem.W.keepIn X.K (.ref f) = true) (hb : Binds X.K fd ps [])
    (ha : DA X p W (e :: es) t) (hdb : (x == ("__debug__" : Str)) = false := by decide) (he : starEach (e :: es) X.env = (false, eval e X.env) :: starEach es X.env := by rfl) (hpl : (backTo pos (starEach es X.env)).any (·.1) = false := by rfl) :
    DE X p W (.Call (.Name x pp) (e :: es) [] pos) (tCallIO sp t) := ⟨PE.imp (pe_callS F hr hg hm hk hb (fun σ => L2N.passAt tk σ) ha.pa hdb he hpl) fun σ H Q ⟨M, ρ, q, xq, S, ht, hq, hx⟩ => by
  refine ⟨M, ρ, _, _, S, ht, fun vs M1 H1 ρ1 rs P1 S1 R1 h1 => ?_, hx⟩
  cases R1 with
  | nil => exact h1.elim
  | cons R0 n0 R1 =>
    rename_i v0 vs r0 rs
    cases r0 with
    | o i =>
      obtain ⟨⟨ds, ρ2⟩, e1, h2⟩ := some!_ok h1
      obtain ⟨M2, P2, S2, R2⟩ := settleL_ok P1.sim R1 e1
      obtain ⟨d, e2, h3⟩ := some!_ok h2
      have P12 := P1.trans S P2
      obtain ⟨a, hs, m, o, wa⟩ := own_at P2.sim e2
      obtain rfl : v0 = .ref a := by
        have z := R0.1
        rw [hs] at z
        cases z
        rfl
      refine ⟨P2.sim.tabs, a, vs, M2, d, ds, _, _, rfl, m, o, P2.sim.mok, R2, h3, fun v M' H' r y ok res h' => ?_, fun c M' H' y ok h' => hx c M' H' _ (P12.trans S (mut_gen P2.sim e2 hs ok.step ok.mok ok.hot ok.own)) h'⟩
      have P3 := mut_gen P2.sim e2 hs ok.step ok.mok ok.hot ok.own
      refine hq v M' H' _ r (P12.trans S P3) trivial ?_ h'
      cases r with
      | d y => exact RVok.dd res
      | n y =>
        obtain ⟨b, eb, f0, mb, nb, ob⟩ := res
        refine ⟨b, eb, mb, fun z => ?_, dom_back P12.step.dom f0, ob⟩
        exact P2.sim.mok b (P2.sim.hot (put_wr e2 z)) f0
      | o _ => exact res.elim
    | _ => exact h1.elim⟩
end
end DL

set_option Elab.async false
set_option linter.all false
set_option maxRecDepth 100000
set_option maxHeartbeats 4000000
namespace DL
open PySem PySem.Spec PyProof.Rows L2
section
variable {X : Cx} {p : Amb} {W : WX} {a b c e : Expr} {ta tb tc te : ET} {pos pos' : Pos} {x : Str}
theorem DE.imp {t u : ET} (h : DE X p W e t) (i : ∀ ρ q x, u ρ q x → t ρ q x) : DE X p W e u := ⟨PE.imp h.pe fun σ H Q ⟨M, ρ, q, xq, S, ht, hq, hx⟩ => ⟨M, ρ, q, xq, S, i ρ q xq ht, hq, hx⟩⟩
theorem DI.imp {t u : IT} {tg : Expr} (h : DI X p W tg e t) (i : ∀ ρ q x, u ρ q x → t ρ q x) : DI X p W tg e u := ⟨PI.imp h.pi fun σ H Q ⟨M, ρ, q, xq, S, ht, hq, hx⟩ => ⟨M, ρ, q, xq, S, i ρ q xq ht, hq, hx⟩⟩
theorem de_add (ha : DE X p W a ta) (hb : DE X p W b tb) : DE X p W (.BinOp a .Add b pos) (t2 fAdd ta tb) := de_op op_addA rAdd_ok ha hb
theorem de_sub (ha : DE X p W a ta) (hb : DE X p W b tb) : DE X p W (.BinOp a .Sub b pos) (t2 fSub ta tb) := de_op op_sub (rI0_ok fun _ _ _ _ => .int _) ha hb
theorem de_mul (ha : DE X p W a ta) (hb : DE X p W b tb) : DE X p W (.BinOp a .Mult b pos) (t2 fMul ta tb) := de_op op_mulA rMul_ok ha hb
theorem de_div (ha : DE X p W a ta) (hb : DE X p W b tb) : DE X p W (.BinOp a .FloorDiv b pos) (t2 fDiv ta tb) := de_op op_fdivW (rI_ok fun _ _ _ _ => .int _) ha hb
theorem de_mod (ha : DE X p W a ta) (hb : DE X p W b tb) : DE X p W (.BinOp a .Mod b pos) (t2 fMod ta tb) := de_op op_mod (rI_ok fun _ _ _ _ => .int _) ha hb
theorem de_pow (ha : DE X p W a ta) (hb : DE X p W b tb) : DE X p W (.BinOp a .Pow b pos) (t2 fPow ta tb) := de_op op_pow (rI_ok fun _ _ _ _ => .int _) ha hb
theorem de_shl (ha : DE X p W a ta) (hb : DE X p W b tb) : DE X p W (.BinOp a .LShift b pos) (t2 fShl ta tb) := de_op op_shlW (rI_ok fun _ _ _ _ => .int _) ha hb
theorem de_shr (ha : DE X p W a ta) (hb : DE X p W b tb) : DE X p W (.BinOp a .RShift b pos) (t2 fShr ta tb) := de_op op_shr (rI_ok fun _ _ _ _ => .int _) ha hb
theorem de_band (ha : DE X p W a ta) (hb : DE X p W b tb) : DE X p W (.BinOp a .BitAnd b pos) (t2 fAnd ta tb) := de_op op_and (rI0_ok fun _ _ _ _ => .int _) ha hb
theorem de_bxor (ha : DE X p W a ta) (hb : DE X p W b tb) : DE X p W (.BinOp a .BitXor b pos) (t2 fXor ta tb) := de_op op_xor (rI0_ok fun _ _ _ _ => .int _) ha hb
theorem de_neg (ha : DE X p W a ta) : DE X p W (.UnaryOp .USub a pos) (t1 fNeg ta) := de_un un_neg neg_ok ha
theorem lt_ok {K : PySem.W.Frag} : R2D K (rI0 fun i j => .bl (decide (i < j))) fLt := rI0_ok fun _ _ _ _ => .bl _
theorem le_ok {K : PySem.W.Frag} : R2D K (rI0 fun i j => .bl (decide (i ≤ j))) fLe := rI0_ok fun _ _ _ _ => .bl _
theorem gt_ok {K : PySem.W.Frag} : R2D K (rI0 fun i j => .bl (decide (j < i))) fGt := rI0_ok fun _ _ _ _ => .bl _
theorem ge_ok {K : PySem.W.Frag} : R2D K (rI0 fun i j => .bl (decide (j ≤ i))) fGe := rI0_ok fun _ _ _ _ => .bl _
theorem de_lt (ha : DE X p W a ta) (hb : DE X p W b tb) : DE X p W (.Compare a [.Lt] [b] pos) (t2 fLt ta tb) := de_cmp op_lt lt_ok ha hb (nomark _)
theorem de_le (ha : DE X p W a ta) (hb : DE X p W b tb) : DE X p W (.Compare a [.LtE] [b] pos) (t2 fLe ta tb) := de_cmp op_le le_ok ha hb (nomark _)
theorem de_gt (ha : DE X p W a ta) (hb : DE X p W b tb) : DE X p W (.Compare a [.Gt] [b] pos) (t2 fGt ta tb) := de_cmp op_gt gt_ok ha hb (nomark _)
theorem de_ge (ha : DE X p W a ta) (hb : DE X p W b tb) : DE X p W (.Compare a [.GtE] [b] pos) (t2 fGe ta tb) := de_cmp op_ge ge_ok ha hb (nomark _)
theorem db_lt (ha : DE X p W a ta) (hb : DE X p W b tb) : DB X p W (.Compare a [.Lt] [b] pos) (tT (t2 fLt ta tb)) := db_cmp op_lt lt_ok ha hb (nomark _)
theorem db_le (ha : DE X p W a ta) (hb : DE X p W b tb) : DB X p W (.Compare a [.LtE] [b] pos) (tT (t2 fLe ta tb)) := db_cmp op_le le_ok ha hb (nomark _)
theorem db_gt (ha : DE X p W a ta) (hb : DE X p W b tb) : DB X p W (.Compare a [.Gt] [b] pos) (tT (t2 fGt ta tb)) := db_cmp op_gt gt_ok ha hb (nomark _)
theorem db_ge (ha : DE X p W a ta) (hb : DE X p W b tb) : DB X p W (.Compare a [.GtE] [b] pos) (tT (t2 fGe ta tb)) := db_cmp op_ge ge_ok ha hb (nomark _)
theorem de_eq {k : Nat} (hr : Room k X.A) (ha : DE X p W a ta) (hb : DE X p W b tb) : DE X p W (.Compare a [.Eq] [b] pos) (t2 fEq ta tb) := de_cmp (op_eqD hr.units) rEq_ok ha hb (nomark _)
theorem de_ne {k : Nat} (hr : Room k X.A) (ha : DE X p W a ta) (hb : DE X p W b tb) : DE X p W (.Compare a [.NotEq] [b] pos) (t2 fNe ta tb) := de_cmp (op_neD hr.units) rNe_ok ha hb (nomark _)
theorem db_eq {k : Nat} (hr : Room k X.A) (ha : DE X p W a ta) (hb : DE X p W b tb) : DB X p W (.Compare a [.Eq] [b] pos) (tT (t2 fEq ta tb)) := db_cmp (op_eqD hr.units) rEq_ok ha hb (nomark _)
theorem db_ne {k : Nat} (hr : Room k X.A) (ha : DE X p W a ta) (hb : DE X p W b tb) : DB X p W (.Compare a [.NotEq] [b] pos) (tT (t2 fNe ta tb)) := db_cmp (op_neD hr.units) rNe_ok ha hb (nomark _)
theorem de_is (ha : DE X p W a ta) (hb : DE X p W b tb) : DE X p W (.Compare a [.Is] [b] pos) (t2 (fIs false) ta tb) := de_cmp op_isA rIs_ok ha hb (nomark _)
theorem de_isnot (ha : DE X p W a ta) (hb : DE X p W b tb) : DE X p W (.Compare a [.IsNot] [b] pos) (t2 (fIs true) ta tb) := de_cmp op_notA rIsNot_ok ha hb (nomark _)
theorem db_is (ha : DE X p W a ta) (hb : DE X p W b tb) : DB X p W (.Compare a [.Is] [b] pos) (tT (t2 (fIs false) ta tb)) := db_cmp op_isA rIs_ok ha hb (nomark _)
theorem db_isnot (ha : DE X p W a ta) (hb : DE X p W b tb) : DB X p W (.Compare a [.IsNot] [b] pos) (tT (t2 (fIs true) ta tb)) := db_cmp op_notA rIsNot_ok ha hb (nomark _)
theorem de_gi {i : Int} (hg : Gl X x) (hm : ∃ t, X.mg x = some (.int i t)) (hd : (x == ("__debug__" : Str)) = false := by decide) : DE X p W (.Name x pos) (tK (.int i)) := by
  obtain ⟨t, hm⟩ := hm
  exact de_gint hg hm hd
/-- built-ins by name -/
theorem de_len (hm : X.mg "len" = none) (ha : DE X p W a ta) (hg : Gl X "len" := by rfl) (he : starEach [a] X.env = (false, eval a X.env) :: starEach [] X.env := by rfl) : DE X p W (.Call (.Name "len" pos') [a] [] pos) (tC' fLen (aCons ta aNil)) := de_callB call_lenA len_ok hg hm PySem.boot_len (da_cons ha da_nil he) (by decide) (by decide) he rfl
theorem de_abs (hm : X.mg "abs" = none) (ha : DE X p W a ta) (hg : Gl X "abs" := by rfl) (he : starEach [a] X.env = (false, eval a X.env) :: starEach [] X.env := by rfl) : DE X p W (.Call (.Name "abs" pos') [a] [] pos) (tC' fAbs (aCons ta aNil)) := de_callB call_abs abs_ok hg hm (by decide +kernel) (da_cons ha da_nil he) (by decide) (by decide) he rfl
theorem de_int1 (hm : X.mg "int" = none) (ha : DE X p W a ta) (hg : Gl X "int" := by rfl) (he : starEach [a] X.env = (false, eval a X.env) :: starEach [] X.env := by rfl) : DE X p W (.Call (.Name "int" pos') [a] [] pos) (tC' fInt1 (aCons ta aNil)) := de_callTy call_int1 int1_ok hg hm (by decide +kernel) (da_cons ha da_nil he) (by decide) (by decide) he rfl
theorem de_tuple (hm : X.mg "tuple" = none) (ha : DE X p W a ta) (hg : Gl X "tuple" := by rfl) (he : starEach [a] X.env = (false, eval a X.env) :: starEach [] X.env := by rfl) : DE X p W (.Call (.Name "tuple" pos') [a] [] pos) (tC' fTuple (aCons ta aNil)) := de_callTy call_tuple_of tuple_ok hg hm (by decide +kernel) (da_cons ha da_nil he) (by decide) (by decide) he rfl
theorem de_list (hm : X.mg "list" = none) (ha : DE X p W a ta) (hg : Gl X "list" := by rfl) (he : starEach [a] X.env = (false, eval a X.env) :: starEach [] X.env := by rfl) : DE X p W (.Call (.Name "list" pos') [a] [] pos) (tC' fList (aCons ta aNil)) := de_callTy call_list_of list_ok hg hm (by decide +kernel) (da_cons ha da_nil he) (by decide) (by decide) he rfl
theorem de_max2 (hm : X.mg "max" = none) (hc : X.calm = true) (ha : DE X p W a ta) (hb : DE X p W b tb) (hg : Gl X "max" := by rfl) (he : starEach [a, b] X.env = (false, eval a X.env) :: starEach [b] X.env := by rfl) (he2 : starEach [b] X.env = (false, eval b X.env) :: starEach [] X.env := by rfl) (hpl : (backTo pos (starEach [b] X.env)).any (·.1) = false := by rfl) :
    DE X p W (.Call (.Name "max" pos') [a, b] [] pos) (tC' fMax2 (aCons ta (aCons tb aNil))) := de_callB (call_max2 hc) ints2_ok hg hm (by decide +kernel) (da_cons ha (da_cons hb da_nil he2) he) (by decide) (by decide) he hpl
theorem de_min2 (hm : X.mg "min" = none) (hc : X.calm = true) (ha : DE X p W a ta) (hb : DE X p W b tb) (hg : Gl X "min" := by rfl) (he : starEach [a, b] X.env = (false, eval a X.env) :: starEach [b] X.env := by rfl) (he2 : starEach [b] X.env = (false, eval b X.env) :: starEach [] X.env := by rfl) (hpl : (backTo pos (starEach [b] X.env)).any (·.1) = false := by rfl) :
    DE X p W (.Call (.Name "min" pos') [a, b] [] pos) (tC' fMin2 (aCons ta (aCons tb aNil))) := de_callB (call_min2 hc) ints2_ok hg hm (by decide +kernel) (da_cons ha (da_cons hb da_nil he2) he) (by decide) (by decide) he hpl
end

/-! ### isinstance -/
inductive TyN where
  | int | bool | tuple | list | str | dict
def TyN.name : TyN → String
  | .int => "int" | .bool => "bool" | .tuple => "tuple" | .list => "list" | .str => "str" | .dict => "dict"
def isD : TyN → D → Option Bool
  | _, .op _ => none
  | .int, .int _ => some true
  | .int, .bl _ => some true
  | .bool, .bl _ => some true
  | .tuple, .tup _ => some true
  | .list, .lst _ => some true
  | .list, .fz _ => some true
  | .str, .str _ => some true
  | .dict, .dic _ => some true
  | .dict, .dit _ => some true
  | _, _ => some false
def fIsi (T : TyN) : D → (RV → Prop) → Prop := fun d q => some! (isD T d) fun b => q (.d (.bl b))
def kindN : D → String
  | .non => "NoneType" | .bl _ => "bool" | .int _ => "int" | .str _ => "str" | .tup _ => "tuple" | .lst _ => "list" | .fz _ => "list" | .dic _ => "dict" | .dit _ => "dict" | .op _ => ""
theorem isD_kit (T : TyN) (d : D) (b : Bool) (h : isD T d = some b) : kitB (kindN d) T.name = some b := by
  cases d with
  | op v => cases T <;> cases h
  | _ => cases T <;> cases h <;> (simp only [kindN, TyN.name]; decide +kernel)
theorem tyx_of {K : PySem.W.Frag} {M : Addr → Prop} {H : Hp} {v : V} {d : D} {T : TyN} {b : Bool} (h : RepC K M H v d) (e : isD T d = some b) : TyX K H v (.type (kindN d)) := by
  cases d with
  | op v => cases T <;> cases e
  | non => rw [h.non]; exact .base .non
  | bl _ => rw [h.bl]; exact .base (.bl _)
  | int _ => rw [h.int]; exact .base (.int _)
  | str _ => rw [h.str]; exact .base (.str _)
  | tup ds =>
    obtain ⟨a, xs, rfl, s, _⟩ := h.tup
    rcases s with ⟨h1 | ⟨o, h1⟩, _⟩ | ⟨o, its, n, h1, h2, _⟩
    · exact .base (.tup h1)
    · exact .fTuple h1
    · exact .kTuple h1 h2
  | lst ds =>
    obtain ⟨a, xs, rfl, h1, _⟩ := h.lst
    exact .base (.lst h1)
  | fz ds =>
    obtain ⟨a, xs, rfl, s, _⟩ := h.fz
    rcases s with ⟨h1 | ⟨o, h1⟩, _⟩ | ⟨o, its, n, h1, h2, _⟩
    · exact .base (.lst h1)
    · exact .base (.frz h1)
    · exact .kList h1 h2
  | dic ds =>
    obtain ⟨a, xs, rfl, h1, _⟩ := h.dic
    exact .base (.dK h1)
  | dit ds =>
    obtain ⟨a, xs, rfl, h1, _⟩ := h.dit
    exact .base (.dT h1)
def fIsi2 (T : TyN) : List D → (RV → Prop) → Prop := fun ds q => match ds with
  | [d, .op (.ty n)] => n = T.name ∧ fIsi T d q
  | _ => False
theorem isi_ok {K : PySem.W.Frag} {T : TyN} : RCD K (rIsi K) (fIsi2 T) := by
  intro M H vs ds Q q mok r h k
  unfold fIsi2 at h
  split at h
  · obtain ⟨v, u, rfl, r1, r2⟩ := r.two
    obtain ⟨rfl, h⟩ := h
    obtain ⟨b, e, h⟩ := some!_ok h
    exact ⟨v, u, _, _, b, rfl, by rw [r2.op]; exact .ty _, tyx_of r1 e, kit_ty (isD_kit T _ b e), k _ M H _ (ResOk.same mok (.bl _)) h⟩
  · exact h.elim
theorem rd_cool (ρ : Ev) (r : RV) : rd ρ (cool r) = rd ρ r := by cases r <;> rfl
section
variable {X : Cx} {p : Amb} {W : WX} {a : Expr} {ta : ET} {pos pos' pos2 : Pos}
theorem de_isi (T : TyN) {x : Str} (hm : X.mg "isinstance" = none) (hmT : X.mg x = none) (hbT : bootBuiltins x = some (.type T.name)) (ha : DE X p W a ta) (hg : Gl X "isinstance" := by rfl) (hgT : Gl X x := by rfl) (hn : x ≠ "__name__" := by decide) (hd : (x == ("__debug__" : Str)) = false := by decide)
    (he : starEach [a, .Name x pos2] X.env = (false, eval a X.env) :: starEach [.Name x pos2] X.env := by rfl) (he2 : starEach [.Name x pos2] X.env = (false, eval (.Name x pos2) X.env) :: starEach [] X.env := by rfl) (hpl : (backTo pos (starEach [.Name x pos2] X.env)).any (·.1) = false := by rfl) :
    DE X p W (.Call (.Name "isinstance" pos') [a, .Name x pos2] [] pos) (t1 (fIsi T) ta) :=
  DE.imp (de_callB call_isi (isi_ok (T := T)) hg hm (by decide +kernel) (da_cons ha (da_cons (de_k (x := .op (.ty T.name)) (pe_bltn hgT hmT hbT (v := .ty T.name) rfl hn hd) fun _ _ => .op _) da_nil he2) he) (by decide) (by decide) he hpl) fun ρ q x h => by
    have e : (fun r ρ1 => f1 (fIsi T) (rd ρ1 r) fun z => q z ρ1) = fun r ρ1 => some! (rdL ρ1 [cool r, cool (RV.d (.op (.ty T.name)))]) fun ds => fIsi2 T ds fun z => q z ρ1 := by
      funext r ρ1
      have e2 : rdL ρ1 [cool r, cool (RV.d (.op (.ty T.name)))] = match rd ρ1 r with
        | some d => some [d, .op (.ty T.name)]
        | none => none := by
        show (match rd ρ1 (cool r), rdL ρ1 [RV.d (.op (.ty T.name))] with
          | some x, some xs => some (x :: xs)
          | _, _ => none) = _
        rw [rd_cool]
        cases rd ρ1 r <;> rfl
      rw [e2]
      cases rd ρ1 r with
      | none => rfl
      | some d => exact propext ⟨fun h => ⟨rfl, h⟩, fun h => h.2⟩
    have h : ta ρ (fun r ρ1 => f1 (fIsi T) (rd ρ1 r) fun z => q z ρ1) x := h
    rw [e] at h
    exact h
end
end DL

set_option Elab.async false
set_option linter.all false
set_option maxRecDepth 100000
set_option maxHeartbeats 4000000
namespace DL
open PySem PySem.Spec PyProof.Rows L2 RT
section
variable {prog : Program} {w : World} {A : Around} {E : Value → Shared → Prop} {s : Shared}
/-- list(it), it the walk of the list l from its end -/
theorem list_of_rev {it l : Addr} {items : Array Value} {Q : Value → Shared → Prop} (hh : A.handled = none) (hit : s.heap.IsRevIter it l ((items.size : Int) - 1)) (hl : s.heap.IsList l items) (hne : l ≠ it) (hn : items.size ≤ sizeLine)
    (hQ : ∀ (s' : Shared) (acc : Array Value) (c : Nat), (∀ b o, b ≠ it → s.heap.get? b = some o → s'.heap.get? b = some o) → s'.os = s.os → s'.gens = s.gens → s'.drawn = s.drawn → s.heap.get? s.heap.objs.size = none →
      s'.heap.get? s.heap.objs.size = some { cls := .type "list", dict := none, data := .seq acc c, slots := #[] } → ItemsOf (fun i v => items[items.size - 1 - i]? = some v) acc items.size → Q (.ref s.heap.objs.size) s') :
    wpAny (model prog w) A (call (.type "list") [.ref it]) Q E s := by
  obtain ⟨oi, hoi, _⟩ := id hit
  obtain ⟨ol, hol, _⟩ := id hl
  have hSi : s.heap.objs.size ≠ it := Nat.ne_of_gt (Heap.lt_size hoi)
  have hSl : s.heap.objs.size ≠ l := Nat.ne_of_gt (Heap.lt_size hol)
  have hSf : s.heap.objs.size ∉ [it, l] := by simp only [List.mem_cons, List.not_mem_nil, or_false, not_or]; exact ⟨hSi, hSl⟩
  refine callType_codes (Q₁ := fun obj s₁ => obj = .ref s.heap.objs.size ∧ s₁ = { s with heap := s.heap.push { cls := .type "list", data := .seq #[] } }) F.called_list (F.typeCall_list_1 _) F.entry_list_init (code_list_new _ ⟨rfl, rfl⟩) fun obj s₁ h₁ => ?_
  obtain ⟨rfl, rfl⟩ := h₁
  have hS : (s.heap.push { cls := .type "list", data := .seq #[] }).get? s.heap.objs.size = some { cls := .type "list", data := .seq #[] } := Heap.get?_push_size _ rfl
  refine ⟨⟨_, hS, rfl⟩, F.args_list_init_2 _ _, ?_⟩
  generalize hs1 : ({ s with heap := s.heap.push { cls := .type "list", data := .seq #[] } } : Shared) = s1 at *
  have W := (Walks.listRev (prog := prog) (w := w) (A := A.in1.in1) hh it l hne items).toS
  show wpAny _ A.in1.in1 (do let old ← Builtin.List.listItems (.ref s.heap.objs.size); Builtin.List.listUpdate (.ref s.heap.objs.size) (fun _ => #[]); letGo old.toList.reverse; Builtin.List.listExtendWith (.ref s.heap.objs.size) (.ref it) .none) _ _ _
  refine wpAny_bind ?_
  unfold Builtin.List.listItems
  have hS' : s1.heap.get? s.heap.objs.size = some { cls := .type "list", data := .seq #[] } := by rw [← hs1]; exact hS
  refine wpAny_bind (wpAny_seqItems hS' rfl (wpAny_pure ?_))
  show wpAny _ A.in1.in1 (updateSeq s.heap.objs.size (fun _ => #[]) >>= fun _ => letGo (#[] : Array Value).toList.reverse >>= fun _ => Builtin.List.listExtendWith (.ref s.heap.objs.size) (.ref it) .none) _ _ _
  refine wpAny_bind (wpAny_updateSeq hS' rfl ?_)
  have hS₂ := Heap.get?_update_self (Obj.mapSeq (fun _ => (#[] : Array Value))) hS' rfl
  have oth : ∀ b o, b ≠ s.heap.objs.size → s1.heap.get? b = some o → (s1.heap.update s.heap.objs.size (Obj.mapSeq (fun _ => (#[] : Array Value)))).get? b = some o :=
    fun b o hb e => (Heap.get?_update_other _ _ (Ne.symm hb)).trans e
  have k1 : ∀ b o, s.heap.get? b = some o → s1.heap.get? b = some o := fun b o e => by rw [← hs1]; exact Heap.get?_push_of_some _ e
  refine wpAny_bind (wpAny_letGo ?_)
  generalize hh2 : s1.heap.update s.heap.objs.size (Obj.mapSeq (fun _ => (#[] : Array Value))) = h2 at *
  have k2 : ∀ b o, s.heap.get? b = some o → h2.get? b = some o := fun b o e => oth b o (Nat.ne_of_lt (Heap.lt_size e)) (k1 b o e)
  have hit2 : h2.IsRevIter it l ((items.size : Int) - 1) := hit.at fun o e => k2 it o e
  have hl2 : h2.IsList l items := by
    obtain ⟨o, ho, c, n, d⟩ := id hl
    exact ⟨o, k2 l o ho, c, n, d⟩
  have hT : ({ s1 with heap := h2 } : Shared).TypeIs (.ref it) "list_reverseiterator" := Heap.IsRevIter.typeIs (s := { s1 with heap := h2 }) hit2
  have h1 : Builtin.List.listSameRef (.ref s.heap.objs.size) (.ref it) = false := by simp [Builtin.List.listSameRef, hSi]
  unfold Builtin.List.listExtendWith
  refine wpAny_bind (wpAny_typeOf hT ?_)
  rw [if_neg (by rw [h1]; decide)]
  refine wpAny_bind (wpAny_pyIter_revIter (s := { s1 with heap := h2 }) hit2 ?_)
  refine wpAny_bind (wpAny_holding ?_)
  unfold Builtin.List.listLengthHint
  refine wpAny_bind (wpAny_specialOf hT nolen_lri ?_)
  show wpAny _ A.in1.in1 (specialOf (Value.ref it) (Str.ofString "__length_hint__") >>= _) _ _ _
  refine wpAny_bind (wpAny_specialOf hT hint_lri ?_)
  generalize hid : ("list_reverseiterator.__length_hint__" : String) = id0
  wp_delta
  rw [show splitId id0 = some ("list_reverseiterator", "__length_hint__") from by subst hid; decide +kernel]
  subst hid
  refine wpAny_bind (wpAny_isInstance (b := true) hT (by rw [isSubtype_type]; kernel_rfl) ?_)
  refine wpAny_pure ?_
  rw [if_neg (by decide)]
  have e0 : ((items.size : Nat) : Int) - 1 - ((0 : Nat) : Int) = (items.size : Int) - 1 := by omega
  refine wpAny_pure ⟨plainId_quiet F.plain_extend_loop _, codeAny_extend_loopS W hn _ hSf _ items.size 0 _ _ _ rfl (Nat.zero_le _) ⟨Nat.zero_le _, by rw [e0]; exact hit2, hl2⟩ hS₂ (ItemsOf.nil _) fun s' acc' c' hm hS' hacc => ?_⟩
  refine ⟨rfl, hQ s' acc' c' (fun b o hb e => hm.heap b o (fun hmem => ?_) (k2 b o e)) ?_ ?_ ?_ (Heap.get?_none_of_le (Nat.le_refl _)) hS' hacc⟩
  · rcases List.mem_cons.mp hmem with e' | hmem
    · exact absurd (Heap.lt_size e) (by rw [e']; exact Nat.lt_irrefl _)
    · exact hb (List.mem_singleton.mp hmem)
  all_goals rw [Moved.eq_with hm, ← hs1]
end
/-- list(reversed(x)), x a list: a new list -/
def tLstRev (K : PySem.W.Frag) (te : TE) : TE := fun σ H Q => te σ H fun v H1 => ∃ (a : Addr) (xs : List V), v = .ref a ∧ SqL K H1 a xs ∧ ∀ q, H1 q = none → Q (.ref q) (upd H1 q (.lst xs.reverse))
section
variable {X : Cx}
theorem pe_lstRev {e : Expr} {te : TE} {p p2 pos pos2 : Pos} (hc : X.calm = true) (hg : Gl X "list") (hm : X.mg "list" = none) (hg2 : Gl X "reversed") (hm2 : X.mg "reversed" = none) (he : PE X e te)
    (hs : starEach [e] X.env = (false, eval e X.env) :: starEach [] X.env := by rfl)
    (hs2 : starEach [.Call (.Name "reversed" p2) [e] [] pos2] X.env = (false, eval (.Call (.Name "reversed" p2) [e] [] pos2) X.env) :: starEach [] X.env := by rfl) :
    PE X (.Call (.Name "list" p) [.Call (.Name "reversed" p2) [e] [] pos2] [] pos) (tLstRev X.K te) := ⟨fun pins s σ H Q I h => by
  refine Call_ (ld_blt I hg hm PyProof.Rows.boot_list (PyProof.Rows.callWith_type1 (args_cons (Call_ (ld_blt I hg2 hm2 PyProof.Rows.boot_reversed (PyProof.Rows.callWith_type1 (args_cons (thn (he.run pins s σ H _ I h) fun u s1 hu => args_nil ?_) hs) hs rfl))) hs2) hs2 rfl))
  obtain ⟨v, H1, I1, r1, a, xs, ev, hq, q⟩ := hu
  subst ev
  obtain rfl : u = Value.ref a := r1
  obtain ⟨its, rv, p', hz⟩ := I1.list hq
  refine call_reversed_list p'.isList (args_nil ?_)
  have k0 : ∀ b o, s1.heap.get? b = some o → (s1.heap.push (revObj a ((its.toArray.size : Int) - 1))).get? b = some o := fun b o e => Heap.get?_push_of_some _ e
  have I2 : Inv X pins σ H1 { s1 with heap := s1.heap.push (revObj a ((its.toArray.size : Int) - 1)) } := I1.kept (t' := s1.toks) k0
  obtain ⟨f0, f1, f2, f3, f4, f5⟩ := I1.fpOk (H' := H1) (b := s1.heap.objs.size) (Nat.le_refl _) I1.fresh
  have hl := p'.isList
  obtain ⟨ol, hol, _⟩ := id hl
  have hne : a ≠ s1.heap.objs.size := Nat.ne_of_lt (Heap.lt_size hol)
  have hn : its.toArray.size ≤ sizeLine := by rw [List.size_toArray, ← rv.length]; exact hz
  refine list_of_rev (s := { s1 with heap := s1.heap.push (revObj a ((its.toArray.size : Int) - 1)) }) (I1.ok.hd hc) ⟨_, Heap.get?_push_size _ rfl, rfl, rfl⟩ (hl.push _) hne hn fun s' acc c hk e1 e2 e3 hno hS hi => ?_
  have hd : (s1.heap.push (revObj a ((its.toArray.size : Int) - 1))).objs.size ≠ s1.heap.objs.size := by rw [Heap.size_push]; exact Nat.succ_ne_self _
  have hfr : H1 (s1.heap.push (revObj a ((its.toArray.size : Int) - 1))).objs.size = none := I2.hok.fresh (Nat.le_refl _)
  have hlay : ((s1.heap.push (revObj a ((its.toArray.size : Int) - 1))).push { cls := .type "list", dict := none, data := .seq acc c, slots := #[] }).get? (s1.heap.push (revObj a ((its.toArray.size : Int) - 1))).objs.size = some { cls := .type "list", dict := none, data := .seq acc c, slots := #[] } := Heap.get?_push_size _ rfl
  have I3 := I2.laid (t' := s1.toks) (o := .lst xs.reverse) (a := (s1.heap.push (revObj a ((its.toArray.size : Int) - 1))).objs.size) (h' := (s1.heap.push (revObj a ((its.toArray.size : Int) - 1))).push { cls := .type "list", dict := none, data := .seq acc c, slots := #[] }) (fun b o e => Heap.get?_push_of_some _ e) (Nat.le_refl _)
    (show ObjOk X.prog X.w _ _ _ (.lst xs.reverse) from ⟨by rw [List.length_reverse]; exact hz, acc.toList, c, vals_rev rv hi, by rw [Array.toArray_toList]; exact hlay⟩)
  have I4 := I3.turned (it := s1.heap.objs.size) (h' := s'.heap) (t' := s'.toks) (fun b o hb e => by
    by_cases hbn : b = (s1.heap.push (revObj a ((its.toArray.size : Int) - 1))).objs.size
    · subst hbn
      rw [hlay] at e
      cases e
      exact hS
    · refine hk b o hb ?_
      rcases Heap.get?_push_cases e with ⟨z, _⟩ | z
      · exact absurd z hbn
      · exact z) (by rw [upd_ne hd.symm]; exact f0) f1 f3 f4 f5
  refine ⟨.ref _, _, ?_, rfl, q _ hfr⟩
  obtain ⟨sh, sg, sd, st, so⟩ := s'
  dsimp only at e1 e2 e3 I4
  subst e1 e2 e3
  exact I4⟩
variable {p0 : Amb} {W : WX}
def fLRev : D → (RV → Prop) → Prop := fun d q => match d with
  | .lst xs => q (.n (.lst xs.reverse))
  | _ => False
theorem de_lrev {e : Expr} {te : ET} {p p2 pos pos2 : Pos} (hc : X.calm = true) (hm : X.mg "list" = none) (hm2 : X.mg "reversed" = none) (he : DE X p0 W e te) (hg : Gl X "list" := by rfl) (hg2 : Gl X "reversed" := by rfl)
    (hs : starEach [e] X.env = (false, eval e X.env) :: starEach [] X.env := by rfl)
    (hs2 : starEach [.Call (.Name "reversed" p2) [e] [] pos2] X.env = (false, eval (.Call (.Name "reversed" p2) [e] [] pos2) X.env) :: starEach [] X.env := by rfl) :
    DE X p0 W (.Call (.Name "list" p) [.Call (.Name "reversed" p2) [e] [] pos2] [] pos) (t1 fLRev te) :=
  ⟨PE.imp (pe_lstRev hc hg hm hg2 hm2 he.pe hs hs2) fun σ H Q h => t1_ok (r := fun v H1 Q => ∃ (a : Addr) (xs : List V), v = .ref a ∧ SqL X.K H1 a xs ∧ ∀ q, H1 q = none → Q (.ref q) (upd H1 q (.lst xs.reverse))) (fun M H x a Q q mok ra h k => by
    cases a with
    | lst ds =>
      obtain ⟨b, xs, e, hx, r⟩ := ra.lst
      exact ⟨b, xs, e, SqL.of hx, fun l hl => k _ _ _ _ (ResOk.lst mok hl r.rev) h⟩
    | _ => exact h.elim) h⟩
end
end DL

set_option Elab.async false
set_option linter.all false
set_option maxRecDepth 100000
set_option maxHeartbeats 4000000
namespace DL
open PySem PySem.Spec PyProof.Rows L2
/-! ### raise -/
/-- what the top says of an error class of one's own -/
structure ErrC (K : PySem.W.Frag) (mg : Str → Option Value) (x : Str) (C : Addr) : Prop where
  ex : PySem.W.excIn K C [.type "ValueError", .type "Exception", .type "BaseException", .type "object"] "ValueError.__new__" = true
  gC : mg x = some (.ref C)
  kC : PySem.W.keepIn K (.ref C) = true
  bC : PySem.W.subIn K (.ref C) (.type "BaseException") = some true
  tC : PySem.W.typeIn K (.ref C) = some (.type "type")
def sRaise (C : Addr) : ST := fun e ρ => e.xc C ρ
section
variable {X : Cx} {p : Amb} {W : WX}
theorem ds_raise {x m : Str} {C : Addr} {j : Nat} {p1 p2 p3 pos : Pos} (hc : X.calm = true) (tk : L2N.Takes X W) (E : ErrC X.K X.mg x C) (hg : Gl X x := by rfl) (hdb : (x == ("__debug__" : Str)) = false := by decide) :
    DS X p W (.Raise (some (.Call (.Name x p1) [.Constant (.str m) j p2] [] p3)) none pos) (sRaise C) :=
  ⟨PS.imp (L2N.ps_raise hc tk (L2N.pmk_own PySem.F.excBase_ValueError E.ex E.gC E.kC (raises_own E.bC E.tC) hg hdb)) fun D σ H ⟨M, ρ, e, S, h, l⟩ => l.xc C M σ H ρ (Post.refl S) h⟩
theorem takesNo (hx : X.xe = fun _ _ => False) : L2N.Takes X wNo := fun _ _ ⟨_, _, _, _, _, _, _, _, _, _, _, _, _, _, _, _, z⟩ => z.elim
end

/-! ### within an except suite: a list's walk -/
section
variable {prog : Program} {w : World} {A : Around} {E : Value → Shared → Prop} {s : Shared}
open HotX in
theorem list_end_hot {it l x1 : Addr} {i : Nat} {items : Array Value} {Q : Option Value → Shared → Prop} (hot : HotAt A x1 s.heap) (hit : s.heap.IsListIter it l i) (hl : s.heap.IsList l items) (hx : items[i]? = none) (n1 : x1 ≠ it)
    (hQ : ∀ h', (∀ b o, b ≠ it → s.heap.get? b = some o → h'.get? b = some o) → Q none { s with heap := h' }) : wpAny (model prog w) A (pyNext (.ref it)) Q E s := by
  obtain ⟨hh, o1, vs1, h1, d1, c1⟩ := hot
  obtain ⟨o, ho, hc, hd⟩ := id hit
  obtain ⟨ol, hol, _, nl, hdl⟩ := hl
  unfold pyNext
  refine wpAny_bind (wpAny_attempt (wpAny_callSpecial?_slot (name := Str.ofString "__next__") hit.typeIs slot_listiter_next (wpAny_call_entry slot_listiter_next hit.typeIs entry_listiter_next ?_ (args_listiter_next _))))
  show wpAny _ _ (field (.ref it) 0 >>= _) _ _ s
  refine wpAny_bind (wpAny_field ho hd (x := .ref l) rfl ?_)
  show wpAny _ _ (if (Value.ref l == Value.none) = true then _ else _) _ _ s
  rw [if_neg (show ¬ ((Value.ref l == Value.none) = true) from Bool.false_ne_true)]
  show wpAny _ _ (field (.ref it) 1 >>= _) _ _ s
  refine wpAny_bind (wpAny_field ho hd (x := .int i 0) rfl ?_)
  show wpAny _ _ (seqItems? (.ref l) >>= _) _ _ s
  refine wpAny_bind (wpAny_seqItems hol hdl ?_)
  simp only [Int.toNat_natCast, hx]
  refine wpAny_bind (wpAny_rule (wpAny_bind (wpAny_setField ho hd (by simp) ?_)))
  show wpAny _ _ (newExc (.type "StopIteration") [] >>= _) _ _ _
  have up : ∀ b u, b ≠ it → s.heap.get? b = some u → (s.heap.update it (Obj.mapFields (·.setIfInBounds 0 Value.none))).get? b = some u := fun b u hb e => (Heap.get?_update_other _ _ (Ne.symm hb)).trans e
  refine wpAny_bind ?_
  simp only [newExc, newTuple]
  refine wpAny_bind (wpAny_newObj_type ?_ (by size_fits))
  refine wpAny_bind (m := firstArgMember _ _) (wpAny_of_eq (a := Value.none) (by first | rfl | (simp only [firstArgMember]; rfl)) ?_)
  refine wpAny_newObj_type ?_ (by size_fits)
  refine raiseNew_hot ⟨hh, o1, vs1, Heap.get?_push_of_some _ (Heap.get?_push_of_some _ (up _ _ n1 h1)), d1, c1⟩ (Nat.ne_of_lt (Heap.lt_size (Heap.get?_push_of_some _ (up _ _ n1 h1)))) (Heap.get?_push_size _ rfl) rfl (by first | (simp; done) | (simp; omega)) ?_
  refine wpAny_bind (wpAny_isInstance (T := "StopIteration") (b := true) ⟨_, Heap.get?_update_self _ (Heap.get?_push_size _ rfl) rfl, rfl⟩ isSubtype_stop ?_)
  refine wpAny_pure (hQ _ fun b u hb e => ?_)
  have e2 := Heap.get?_push_of_some (o := { cls := .type "tuple", data := .seq ([] : List Value).toArray }) (up b u hb e)
  rw [Heap.get?_update_other _ _ (Nat.ne_of_gt (Heap.lt_size e2))]
  exact Heap.get?_push_of_some _ e2
end

/-! ### a comprehension over a list, within an except suite -/
open L2H in
/-- [e for x in l if ..]: g the target's reading, tt the test's, te the element's; Pv by the turn and the heap, the new list at D -/
def tLcHot (K : PySem.W.Frag) (tl : TE) (g : TG) (tt : TT) (te : TE) (vs : List Nat) : TE := fun σ H Q => tl σ H fun x H1 => ∃ a xs, x = .ref a ∧ SqL K H1 a xs ∧ ∀ D, H1 D = none → ∃ Pv : Nat → Hp → Prop, Pv 0 (upd H1 D (.lst [])) ∧
  (∀ i H, Pv i H → SqL K H a xs) ∧ (∀ i x H, xs[i]? = some x → Pv i H → g x (wipe σ vs) H fun σ2 H2 => wipe σ2 vs = wipe σ vs ∧ tt σ2 H2 fun b H3 =>
    if b = true then te σ2 H3 fun y H4 => ∃ acc, H4 D = some (.lst acc) ∧ acc.length < sizeLine ∧ Pv (i + 1) (upd H4 D (.lst (acc ++ [y]))) else Pv (i + 1) H3) ∧ (∀ H, Pv xs.length H → Q (.ref D) H)
section
variable {X : Cx}
open L2H HotX in
theorem pe_lcHot {elt tg l : Expr} {ifs : List Expr} {scope : Scope} {own : List (Str × Nat)} {pos : Pos} {tl : TE} {g : TG} {tt : TT} {te : TE} (hot : HotC X) (hN : X.N.Nodup) (hl : PE X l tl) (ok : BlkOk X.N X.env.scope scope own)
    (hg : ∀ (s : Shared) (H : Hp) (C : Addr) (cl : List (Str × Addr)) (fp : List Addr), PG (X.blk s H scope (compEnvC scope cl C X.env) fp) tg g) (ht : ∀ (s : Shared) (H : Hp) (C : Addr) (cl : List (Str × Addr)) (fp : List Addr), PTs (X.blk s H scope (compEnvC scope cl C X.env) fp) ifs tt)
    (he : ∀ (s : Shared) (H : Hp) (C : Addr) (cl : List (Str × Addr)) (fp : List Addr), PE (X.blk s H scope (compEnvC scope cl C X.env) fp) elt te) (hs : ∀ x, foldedSetIterable l X.env x = pure x := by intro _; rfl) :
    PE X (.ListComp elt [⟨tg, l, ifs, 0⟩] scope pos) (tLcHot X.K tl g tt te (own.map (·.2))) := ⟨fun pins s σ H Q I h => by
  obtain ⟨p, ⟨hh, v1, e1, c1⟩, hp⟩ := hot
  have hfree : ∀ y ∈ scope.names, y.2 = .free → ∃ c, X.env.cells.lookup y.1 = some c := fun y hy e => (ok.free y hy e).elim (fun k => I.ok.has _ (.inl k)) fun k => I.ok.has _ (.inr k)
  rw [eval_ListComp]
  refine wpAny_comprehension_free (use := none) rfl hs (closure_ok hfree) ok.kind (fun y hy e => by rw [ok.uniq y hy, e]) (thn (hl.run pins s σ H _ I h) fun xv s1 hx => ?_)
  obtain ⟨x, H1, I1, rx, a, xs, rfl, hq, kk⟩ := hx
  cases rx
  obtain ⟨us, vu, pl, hz⟩ := I1.list hq
  refine wpAny_pyIter_list pl.isList ?_
  have I2 : Inv X pins σ H1 { s1 with heap := s1.heap.push { cls := .type "list_iterator", data := .fields #[.ref a, .int 0 0] } } := I1.kept (t' := s1.toks) fun b o e => Heap.get?_push_of_some _ e
  have T0 : ({ s1 with heap := s1.heap.push { cls := .type "list_iterator", data := .fields #[.ref a, .int 0 0] } } : Shared).heap.IsListIter s1.heap.objs.size a 0 := ⟨_, Heap.get?_push_size _ rfl, rfl, rfl⟩
  have F0 : FpOk X pins H1 s1.heap.objs.size := I1.fpOk (Nat.le_refl _) I1.fresh
  generalize hit : s1.heap.objs.size = it at T0 F0 ⊢
  generalize hs2 : ({ s1 with heap := s1.heap.push { cls := .type "list_iterator", data := .fields #[.ref a, .int 0 0] } } : Shared) = s2 at I2 T0 ⊢
  refine wpAny_newObj_type (newEnv_comp ?_) (by show 0 ≤ sizeLine; decide)
  generalize hD : s2.heap.objs.size = D
  have hDn : H1 D = none := I2.hok.fresh (Nat.le_of_eq hD)
  have itlt : it < s2.heap.objs.size := by
    obtain ⟨o, e, _⟩ := T0
    exact Heap.lt_size e
  obtain ⟨Pv, w0, stay, turn, done⟩ := kk D hDn
  generalize hs3 : ({ s2 with heap := s2.heap.push { cls := .type "list", data := .seq ([] : List Value).toArray } } : Shared) = s3
  have h3 : s3.heap = s2.heap.push { cls := .type "list", data := .seq ([] : List Value).toArray } := by rw [← hs3]
  have I3 : Inv X pins σ (upd H1 D (.lst [])) s3 := by
    rw [← hs3]
    refine I2.laid (t' := s2.toks) (fun b o e => Heap.get?_push_of_some _ e) (Nat.le_of_eq hD) ⟨Nat.zero_le _, [], 0, .nil, ?_⟩
    rw [← hD]
    exact Heap.get?_push_size _ rfl
  have F3 : ∀ b ∈ [it], FpOk X pins (upd H1 D (.lst [])) b ∧ b < s3.heap.objs.size := fun b hb => by
    rw [List.mem_singleton.mp hb]
    exact ⟨⟨by rw [upd_ne (by rw [← hD]; exact Nat.ne_of_lt itlt)]; exact F0.1, F0.2⟩, by rw [h3, Heap.size_push]; exact Nat.lt_succ_of_lt itlt⟩
  have T3 : s3.heap.IsListIter it a 0 := T0.at fun o e => by rw [h3]; exact Heap.get?_push_of_some _ e
  have I4 := block_start I3 ok hN F3
  have pg := hg s3 (upd H1 D (.lst [])) s3.heap.objs.size (cellsFrom (s3.heap.objs.size + 1) scope.names (cloFrom X.env.cells scope.names [])) [it]
  have pt := ht s3 (upd H1 D (.lst [])) s3.heap.objs.size (cellsFrom (s3.heap.objs.size + 1) scope.names (cloFrom X.env.cells scope.names [])) [it]
  have pe := he s3 (upd H1 D (.lst [])) s3.heap.objs.size (cellsFrom (s3.heap.objs.size + 1) scope.names (cloFrom X.env.cells scope.names [])) [it]
  -- the exception that is handled, as it stands within the block
  have PP := I3.pin p (List.mem_append_left _ hp)
  have pnf : p.1 ∉ frs X.stack := fun hm => (List.mem_cons.mp (I3.stkSub p.1 hm)).elim PP.2.2.1 PP.2.2.2.1
  have pni : p.1 ≠ it := fun z => by
    have q := F0.2.2.2.2.2 p (List.mem_append_left _ hp)
    exact q z
  show codeAny _ _ (.compStart (.ListComp elt [⟨tg, l, ifs, 0⟩] scope pos) 0 (.ref it) (.ref D) (compEnvC scope (cellsFrom (s3.heap.objs.size + 1) scope.names (cloFrom X.env.cells scope.names [])) s3.heap.objs.size X.env)) (compPost (model X.prog X.w) X.A X.xe none (EP X pins σ Q) (.ref D) s3.heap.objs.size) { s3 with heap := pushCells (s3.heap.push { cls := .type "dict", data := .dict #[] }) scope.names }
  generalize hce : compEnvC scope (cellsFrom (s3.heap.objs.size + 1) scope.names (cloFrom X.env.cells scope.names [])) s3.heap.objs.size X.env = ce at I4 pg pt pe ⊢
  have cL : ce.locals = s3.heap.objs.size := by subst hce; rfl
  generalize hH3 : upd H1 D (.lst []) = H3 at I3 I4 pg pt pe w0 F3 PP
  generalize hs4 : ({ s3 with heap := pushCells (s3.heap.push { cls := .type "dict", data := .dict #[] }) scope.names } : Shared) = s4 at I4 ⊢
  have T4 : s4.heap.IsListIter it a 0 := T3.at fun o e => by rw [← hs4]; exact pushCells_keeps _ _ _ _ (Heap.get?_push_of_some _ e)
  have hotB : ∀ {pn : List (Addr × Obj)} {σ' : L2.St} {H' : Hp} {s' : Shared}, Inv (X.blk s3 H3 scope ce [it]) pn σ' H' s' → HotAt X.A p.1 s'.heap := fun {pn σ' H' s'} I' =>
    ⟨hh, p.2, v1, I'.base.keep p.1 p.2 PP.1 PP.2.1 pnf fun z => pni (List.mem_singleton.mp z), e1, c1⟩
  have stat : ∀ {σ' : L2.St} {H' : Hp} {s' : Shared}, Inv (X.blk s3 H3 scope ce [it]) [] σ' H' s' → H' it = none → FpOk (X.blk s3 H3 scope ce [it]) [] H' it := fun {σ' H' s'} I' hn =>
    ⟨hn, (I'.ok.exf it List.mem_cons_self).1, I'.ok.exfs it List.mem_cons_self, .inl List.mem_cons_self, fun x c e => (I'.ok.exf it List.mem_cons_self).2 x c e, fun q hq => absurd (show q ∈ ([] : List (Addr × Obj)) ++ [] from hq) (by simp)⟩
  have loop : codeAny (model X.prog X.w) X.A (.compLoop (.ListComp elt [⟨tg, l, ifs, 0⟩] scope pos) 0 (.ref it) (.ref D) ce) (compPost (model X.prog X.w) X.A X.xe none (EP X pins σ Q) (.ref D) s3.heap.objs.size) s4 := by
    refine compLoop_any (fun n s' => ∃ i H', i + n = xs.length ∧ Inv (X.blk s3 H3 scope ce [it]) [] (wipe σ (own.map (·.2))) H' s' ∧ s'.heap.IsListIter it a i ∧ H' it = none ∧ Pv i H') ?_ xs.length ⟨0, H3, Nat.zero_add _, I4, T4, (F3 it List.mem_cons_self).1.1, w0⟩
    rintro n s5 ⟨i, H5, en, I5, T5, n5, w5⟩
    have q5 := stay i H5 w5
    obtain ⟨us5, vu5, pl5, hz5⟩ := I5.list q5
    obtain ⟨f0, f1, f2, f3, f4, f5⟩ := stat I5 n5
    by_cases hlt : i < xs.length
    · obtain ⟨u, hu, ru⟩ := vu5.get (List.getElem?_eq_getElem hlt)
      refine wpAny_pyNext_list_item T5 pl5.isList (x := u) (by simpa using hu) fun h' T6 sb => ?_
      have I6 : Inv (X.blk s3 H3 scope ce [it]) [] (wipe σ (own.map (·.2))) H5 { s5 with heap := h' } := I5.turned (t' := s5.toks) (fun b o hb e => (sb.2 b hb).trans e) f0 f1 f3 f4 f5
      obtain ⟨oi, ei, ci, di⟩ := id T6
      refine go_of (s := { s5 with heap := h' }) ei ci di (by decide) ?_
      have J6 := I6.pinned (fp := [it]) (fun b hb => by rw [List.mem_singleton.mp hb]; exact stat I6 n5) fun b hb => by rw [List.mem_singleton.mp hb]; exact ⟨oi, ei, fun v z => by rw [di] at z; cases z⟩
      refine thnF (pg.run _ _ _ H5 xs[i] u _ J6 ru (turn i xs[i] H5 (List.getElem?_eq_getElem hlt) w5)) fun _ s8 ⟨σ8, H8, I8, hw8, q8⟩ => ?_
      refine thnF (pt.run _ s8 σ8 H8 _ I8 q8) fun b s9 ⟨H9, I9, q9⟩ => ?_
      have fin : ∀ {s' : Shared} {H' : Hp}, Inv (X.blk s3 H3 scope ce [it]) ([] ++ pinsAt [it] h') σ8 H' s' → Pv (i + 1) H' → ∃ m, m < n ∧ ∃ i H', i + m = xs.length ∧ Inv (X.blk s3 H3 scope ce [it]) [] (wipe σ (own.map (·.2))) H' s' ∧ s'.heap.IsListIter it a i ∧ H' it = none ∧ Pv i H' := fun {s' H'} I' nx => by
        have pin' := I'.pin (it, oi) (List.mem_append_right _ (List.mem_append_right _ (mem_pinsAt List.mem_cons_self ei)))
        have hl8 : (wipe σ (own.map (·.2))).length = σ8.length := by rw [← hw8, wipe_length]
        refine ⟨n - 1, by omega, i + 1, H', by omega, (I'.unpinned (pins := [])).weak hl8 (fun j v e => ?_), T6.at fun o e => ?_, pin'.2.1, nx⟩
        · rw [← hw8] at e
          exact (wipe_some e).1
        · have e9 : h'.get? it = some o := e
          rw [ei] at e9
          cases e9
          exact pin'.1
      cases b with
      | false =>
        rw [if_neg Bool.false_ne_true] at q9
        exact fin I9 q9
      | true =>
        rw [if_pos rfl] at q9
        refine thnF (pe.run _ s9 σ8 H9 _ I9 q9) fun z s10 ⟨yv, H10, I10, r10, acc, hD10, hz10, nx⟩ => ?_
        exact app_ok (X := X.blk s3 H3 scope ce [it]) I10 hD10 hz10 r10 fun s11 I11 => fin I11 nx
    · have ei : i = xs.length := by omega
      subst ei
      have el := vu5.length
      refine list_end_hot (hotB I5) T5 pl5.isList (by simp; omega) pni fun h' eb => ?_
      have I6 : Inv (X.blk s3 H3 scope ce [it]) [] (wipe σ (own.map (·.2))) H5 { s5 with heap := h' } := I5.turned (t' := s5.toks) (fun b o hb e => eb b o hb e) f0 f1 f3 f4 f5
      have I7 : Inv X pins σ H5 { s5 with heap := h' } := I3.call' (ch := [it]) I6.os I6.base I6.hok I6.bare fun b hb => ⟨(F3 b hb).1.2.2.2.1, (F3 b hb).1.2.1, (F3 b hb).1.2.2.2.2.1, (F3 b hb).1.2.2.2.2.2⟩
      have nC : H5 s3.heap.objs.size = none := by
        have z : H5 ce.locals = none := I6.free
        rw [cL] at z
        exact z
      obtain ⟨m, hn, _⟩ := I6.loc
      have hn : ({ s5 with heap := h' } : Shared).heap.Ns ce.locals m := hn
      rw [cL] at hn
      obtain ⟨c0, c1, c2, c3, c4, c5⟩ := I3.fpOk (b := s3.heap.objs.size) (H' := H5) (Nat.le_refl _) nC
      exact ⟨m, hn, fun h'' sb => ⟨.ref D, H5, I7.turned (t' := s5.toks) (fun b o hb e => (sb.2 b hb).trans e) c0 c1 c3 c4 c5, rfl, done H5 w5⟩⟩
  exact codeAny_compStart_list loop (wpAny_pyIter_listiter T4 loop)⟩
end
end DL

set_option Elab.async false
set_option linter.all false
set_option maxRecDepth 100000
set_option maxHeartbeats 4000000
namespace DL
open PySem PySem.Spec PyProof.Rows L2 L2H HotX
/-! ### a def called within an except suite, with the error that is handled -/
/-- the error's object: of the class at D, nothing else in it, its context None -/
def ErrO (D : Addr) (p : Addr × Obj) : Prop := L2N.Zn (.ref D) none p.2 ∧ ∃ vs, p.2.data = .fields vs
/-- called with the error at hand it gives the text z -/
structure FnW (P : Program) (w : World) (K : PySem.W.Frag) (mg : Str → Option Value) (base : Heap) (k : Nat) (f : Addr) (fd : FuncData) (x : Str) (D : Addr) (z : Str) : Prop where
  run : ∀ (A : Around) (outer : List Env) (s : Shared) (H : Hp) (args : Args) (us : List Value) (Q : VK) (E : XK) (p : Addr × Obj), RoomH k A → Hot1 A p → ErrO D p → PinOk outer H s p → Env0 P w K mg base A outer s H → BindsTo s fd args ([x].zip us) → Vals [.ref p.1] us →
    (∀ H', Same H H' → Q (.str z) H') → codeAny (model P w) A (.call (.ref f) args) (CR (L2N.CX P w) outer P w H s Q E) s
theorem fnW_of {P : Program} {w : World} {K : PySem.W.Frag} {mg : Str → Option Value} {base : Heap} {k : Nat} {f D : Addr} {fd : FuncData} {x qual y : Str} {st : Stmt} {N : List Str} {z : Str} (F : Fun K x qual st f fd) (S : FnScope N [y] (defScope st))
    (hb : ∀ (cdv : Value) (A : Around) (outer : List Env) (s : Shared) (H : Hp) (Q : VK) (E : XK) (p : Addr × Obj), Hot1 A p → ErrO D p → RoomH k (A.deeper (envOfC qual (defScope st) s.heap.objs.size f cdv)) → (∀ H', Same H H' → Q (.str z) H') →
      ∃ t, PSs (cxH (L2N.CX P w) P w K mg base N qual (defScope st) f cdv A outer s H E p) (defBody st) t ∧ t { nx := fun _ H' => Q .non H', rt := Q } (L2.start N [.ref p.1]) H) : FnW P w K mg base (k + 1) f fd y D z := by
  obtain ⟨oc, od, kV, doc, pm, an, cdv, ct, osl, rfl, lk, hcd⟩ := F.ex
  refine ⟨fun A outer s H args us Q E p hr hot ho hpin e0 hbd r hq => ?_⟩
  have KX : K.In s.heap := e0.mod.kin.keeps fun b o e => (e0.bs b o e).1
  have lim : s.heap.NoLimit := e0.mod.nolimit.keeps fun b o e => (e0.bs b o e).1
  have kd : ∀ v ∈ [y].zip us, (defScope st).names.lookup v.1 = some .local ∨ ((defScope st).names.lookup v.1 = some .cell ∧ ((cellsFrom (s.heap.objs.size + 1) (defScope st).names []).lookup v.1).isSome = true) := fun ⟨n, v⟩ hy => by
    rcases S.par n (List.of_mem_zip hy).1 with q | q
    · exact .inl q
    · exact .inr ⟨q, PySem.W.cellsFrom_some _ _ _ (.inl q)⟩
  refine codeAny_call_function hr.depth (KX _ _ lk) rfl S.co S.gen rfl (PySem.W.codeRec_of KX hcd) (hbd _ _ _ _ ?_)
  refine wpAny_newFunctionEnv_cells S.kind kd fun env he s1 xx => ?_
  subst he
  refine ⟨lim.keeps xx.toInCall.keep, codeAny_func ?_⟩
  obtain ⟨t, ht, hqq⟩ := hb cdv A outer s H Q E p hot ho (hr.deeper _) hq
  have I : Inv (cxH (L2N.CX P w) P w K mg base N qual (defScope st) f cdv A outer s H E p) [] (L2.start N [.ref p.1]) H s1 := inv_startH S hpin e0 rfl r xx
  refine wpAny_mono (ht.run [] s1 (L2.start N [.ref p.1]) H _ I hqq) (fun fl s' hs => ?_) fun e s' hs => hs
  have fin : ∀ {σ' : L2.St} {H' : Hp} {v : V} {u : Value}, Inv (cxH (L2N.CX P w) P w K mg base N qual (defScope st) f cdv A outer s H E p) [] σ' H' s' → RelV v u → Q v H' → CE outer P w H s Q u s' := fun {σ' H' v u} J rv q => ⟨v, H', J.os, J.bare, J.base, J.hok, rv, q⟩
  cases fl with
  | ret u =>
    obtain ⟨v, σ', H', J, rv, q⟩ := hs
    exact fin J rv q
  | next =>
    obtain ⟨σ', H', J, q⟩ := hs
    exact fin (v := V.non) (u := Value.none) J rfl q
  | brk => exact (let ⟨_, _, _, q⟩ := hs; q : False).elim
  | cont => exact (let ⟨_, _, _, q⟩ := hs; q : False).elim

/-- isinstance(e, c), e the error at hand -/
theorem call_isP {X : Cx} {D : Addr} {p : Addr × Obj} (C : ExcC X.K D) (ho : ErrO D p) (hp : p ∈ X.pn) : CallR X (.builtin "isinstance") (rIsE X.K D p.1) := by
  intro pins s σ H xs us Q I r h
  obtain ⟨c, cv, b, rfl, hcv, e, q⟩ := h
  obtain ⟨u1, u2, rfl, r1, r2⟩ := vals2 r
  cases r1
  have ec := hcv _ r2
  subst ec
  obtain ⟨hget, _⟩ := I.pin p (List.mem_append_left _ hp)
  obtain ⟨hz, vs, hv⟩ := ho
  have hz := hz.zc
  have J : PySem.W.InstAt s.heap p.1 p.2 D none := by
    obtain ⟨a, oc, od, oda, osl⟩ := p
    obtain ⟨h1, h2⟩ := hz
    dsimp only at h1 h2 hv hget
    subst h1 h2 hv
    exact ⟨hget, rfl, rfl, trivial⟩
  exact PySem.W.kia_one (PySem.W.handS_kitx_exc C.hg C.hk C.hs C.hd C.ha C.hn C.ht C.hm) I.kIn J e (fun z => nomatch z) fun tk => ⟨.bl b, H, I.kept (t' := tk) fun _ _ z => z, rfl, q⟩

/-! ### the word of an error that is of one kind alone -/
abbrev rLenL (K : PySem.W.Frag) : List V → Hp → VK → Prop := fun xs H Q => ∃ p ys, xs = [.ref p] ∧ (SqL K H p ys ∨ SqT K H p ys) ∧ Q (.int ys.length) H
def tWord (K : PySem.W.Frag) (D a C1 C2 C3 C4 C5 : Addr) : TS :=
  tSeq (tAsg (tLst (tCons (tCB (rIsE K D a) (tCons (tVar 0) (tCons (tC (.ref C1)) tNil))) (tCons (tCB (rIsE K D a) (tCons (tVar 0) (tCons (tC (.ref C2)) tNil))) (tCons (tCB (rIsE K D a) (tCons (tVar 0) (tCons (tC (.ref C3)) tNil)))
    (tCons (tCB (rIsE K D a) (tCons (tVar 0) (tCons (tC (.ref C4)) tNil))) (tCons (tCB (rIsE K D a) (tCons (tVar 0) (tCons (tC (.ref C5)) tNil))) tNil)))))) (gName 1))
  (tSeq (tIfS (tTest (tOp rNe (tCB (rLenL K) (tCons (tLcHot K (tVar 1) (gName 2) (tB (tVar 2)) (tVar 2) [2]) tNil)) (tC (.int 1)))) (tRet (tC (.str "many"))) tNext)
  (tRet (tOp (rIxL K) (tLst (tCons (tC (.str "range")) (tCons (tC (.str "form")) (tCons (tC (.str "none")) (tCons (tC (.str "refused")) (tCons (tC (.str "much")) tNil)))))) (tBM K "list" (rIndex K) (tVar 1) (tCons (tC (.bl true)) tNil)))))
theorem same_new {H : Hp} {p : Addr} {o : HO} (h : H p = none) : Same H (upd H p o) := fun b x e => by
  rw [upd_ne (ne_of_none e h)]
  exact e
def words5 : List Str := ["range", "form", "none", "refused", "much"]
theorem word_reads {K : PySem.W.Frag} {D a C1 C2 C3 C4 C5 : Addr} {b1 b2 b3 b4 b5 : Bool} {j : Nat} {z : Str} {Q : VK} {H : Hp} (k1 : PySem.W.kitOne K (.ref D) (.ref C1) = some b1) (k2 : PySem.W.kitOne K (.ref D) (.ref C2) = some b2) (k3 : PySem.W.kitOne K (.ref D) (.ref C3) = some b3)
    (k4 : PySem.W.kitOne K (.ref D) (.ref C4) = some b4) (k5 : PySem.W.kitOne K (.ref D) (.ref C5) = some b5) (one : ([b1, b2, b3, b4, b5].filter id).length = 1) (hj : [b1, b2, b3, b4, b5][j]? = some true) (hm : ∀ m b, m < j → [b1, b2, b3, b4, b5][m]? = some b → b = false) (hz : words5[j]? = some z)
    (hq : ∀ H', Same H H' → Q (.str z) H') {D0 : Ends} (hD : D0.rt = Q) : tWord K D a C1 C2 C3 C4 C5 D0 [some (.ref a), none, none] H := by
  have cls : ∀ C : Addr, ∀ u, RelV (.ref C) u → u = .ref C := fun C u h => h
  refine ⟨_, rfl, .ref C1, .ref C1, b1, rfl, cls C1, k1, _, rfl, .ref C2, .ref C2, b2, rfl, cls C2, k2, _, rfl, .ref C3, .ref C3, b3, rfl, cls C3, k3, _, rfl, .ref C4, .ref C4, b4, rfl, cls C4, k4, _, rfl, .ref C5, .ref C5, b5, rfl, cls C5, k5, by show 5 ≤ sizeLine; decide, fun l hl => ?_⟩
  have hL : upd H l (.lst ([b1, b2, b3, b4, b5].map V.bl)) l = some (.lst ([b1, b2, b3, b4, b5].map V.bl)) := upd_same
  refine ⟨.ref l, rfl, l, [b1, b2, b3, b4, b5].map V.bl, rfl, SqL.of hL, fun d hd => ?_⟩
  have nld : l ≠ d := ne_of_none hL hd
  refine ⟨fun i H' => H' l = some (.lst ([b1, b2, b3, b4, b5].map V.bl)) ∧ H' d = some (.lst ((([b1, b2, b3, b4, b5].take i).filter id).map V.bl)) ∧ Same H H', ⟨by rw [upd_ne nld]; exact hL, upd_same, (same_new hl).trans (same_new hd)⟩, fun i H' h => SqL.of h.1, fun i x H' hx h => ?_, fun H' h => ?_⟩
  · obtain ⟨b, hb, rfl⟩ : ∃ b, [b1, b2, b3, b4, b5][i]? = some b ∧ V.bl b = x := by
      rw [List.getElem?_map] at hx
      cases e : [b1, b2, b3, b4, b5][i]? with
      | none => rw [e] at hx; cases hx
      | some b => rw [e] at hx; cases hx; exact ⟨b, rfl, rfl⟩
    have tk : ([b1, b2, b3, b4, b5].take (i + 1)).filter id = ([b1, b2, b3, b4, b5].take i).filter id ++ (if b then [b] else []) := by
      rw [List.take_add_one, hb, List.filter_append]
      cases b <;> rfl
    refine ⟨rfl, .bl b, rfl, b, rfl, ?_⟩
    cases b with
    | false =>
      refine iteF ⟨h.1, ?_, h.2.2⟩
      rw [tk, if_neg Bool.false_ne_true, List.append_nil]
      exact h.2.1
    | true =>
      refine iteT ⟨.bl true, rfl, _, h.2.1, ?_, ?_, ?_, ?_⟩
      · refine small1000 (Nat.le_trans ?_ (show 5 ≤ 1000 by decide))
        rw [List.length_map]
        exact Nat.le_trans (List.length_filter_le _ _) (by rw [List.length_take]; exact Nat.min_le_right _ _)
      · rw [upd_ne nld]; exact h.1
      · rw [upd_same, tk, List.map_append]
        rfl
      · intro b' o' e
        rw [upd_ne (ne_of_none e ((same_new (o := .lst ([b1, b2, b3, b4, b5].map V.bl)) hl).free hd))]
        exact h.2.2 b' o' e
  · have e5 : [b1, b2, b3, b4, b5].take ([b1, b2, b3, b4, b5].map V.bl).length = [b1, b2, b3, b4, b5] := rfl
    obtain ⟨h1, h2, h3⟩ := h
    rw [e5] at h2
    refine ⟨d, _, rfl, .inl (SqL.of h2), rfl, _, rfl, ?_⟩
    rw [List.length_map, one]
    refine iteF ?_
    dsimp only [tNext, tRet]
    refine ⟨by show 5 ≤ sizeLine; decide, fun m hm' => ?_⟩
    have s4 : Same H (upd H' m (.lst (words5.map V.str))) := h3.trans (same_new hm')
    have nlm : l ≠ m := ne_of_none h1 hm'
    have L' : SqL K (upd H' m (.lst (words5.map V.str))) l ([b1, b2, b3, b4, b5].map V.bl) := SqL.of (by rw [upd_ne nlm]; exact h1)
    refine ⟨.ref l, rfl, .inl ⟨rfl, _, L'⟩, l, _, .bl true, j, .bl true, rfl, rfl, L', rfl, ?_, ?_, rfl, fun i x hi hx => ?_, m, words5.map V.str, (j : Int), .str z, rfl, rfl, SqL.of upd_same, atI_nat ?_, ?_⟩
    · rfl
    · rw [List.getElem?_map, hj]; rfl
    · rw [List.getElem?_map] at hx
      cases e : [b1, b2, b3, b4, b5][i]? with
      | none => rw [e] at hx; cases hx
      | some b =>
        rw [e] at hx
        cases hx
        rw [hm i b hi e]
        rfl
    · rw [List.getElem?_map, hz]; rfl
    · show D0.rt _ _
      rw [hD]
      exact hq _ s4

/-! ### try: .. except K as e: return word(e) -/
section
variable {X : Cx} {a : Addr} {oe : Obj} {cls : Value} {d : Option Addr} {pn : List (Addr × Obj)} {wd : Addr → Option Str} {i k : Nat} {f : Addr} {fd : FuncData} {x n y : Str} {q p1 pos : Pos}
/-- what the suite asks -/
def tsWord (wd : Addr → Option Str) (i : Nat) (a : Addr) (cls : Value) (d : Option Addr) : TE := fun σ H Q => ∃ (D : Addr) (z : Str), cls = .ref D ∧ d = none ∧ wd D = some z ∧ σ[i]? = some (some (.ref a)) ∧ ∀ H', Same H H' → Q (.str z) H'
theorem pe_word (hz : L2N.Zn cls d oe) (hf : ∃ vs, oe.data = .fields vs) (hW : ∀ D z, wd D = some z → FnW X.prog X.w X.K X.mg X.base k f fd y D z) (hr : Room k X.A) (hg : Gl X x) (hm : X.mg x = some (.ref f)) (hk : PySem.W.keepIn X.K (.ref f) = true) (hb : Binds X.K fd [y] [])
    (hi : X.N[i]? = some n) (hv : Vis X.env.scope n) (hd1 : (n == ("__debug__" : Str)) = false := by decide) (hd2 : (n == ("__classdict__" : Str)) = false := by decide) (hdb : (x == ("__debug__" : Str)) = false := by decide)
    (he : starEach [.Name n p1] X.env = (false, eval (.Name n p1) X.env) :: starEach [] X.env := by rfl) (hpl : (backTo pos (starEach [] X.env)).any (·.1) = false := by rfl) :
    PE (X.suite a ((a, oe) :: pn)) (.Call (.Name x q) [.Name n p1] [] pos) (tsWord wd i a cls d) := ⟨fun pins s σ H Q I h => by
  obtain ⟨D, z, rfl, rfl, hwd, hs, hq⟩ := h
  have F := hW D z hwd
  have hV : PE (X.suite a ((a, oe) :: pn)) (.Name n p1) (tVar i) := pe_var hi hv hd1 hd2
  have hA : PA (X.suite a ((a, oe) :: pn)) [.Name n p1] (tCons (tVar i) tNil) := pa_cons hV pa_nil he
  refine wpAny_Call_Name_kw (ld_glob I hg hm ?_ hdb)
  refine PySem.W.callWith_K (h₀ := X.base) I.ok.mod.kin hk (thn (hA.run pos pins s σ H (fun vs G => vs = [.ref a] ∧ H = G) I ⟨_, hs, rfl, rfl⟩) fun us s1 ⟨vs, G, J, r, ev, eG⟩ => ?_) he hpl
  subst ev
  subst eG
  refine ⟨J.kIn, ?_⟩
  obtain ⟨u, rfl, ru⟩ := vals1 r
  have b := hb s1 [u] J.kIn rfl
  have hot : Hot1 (X.suite a ((a, oe) :: pn)).A (a, oe) := by
    obtain ⟨vs, hvs⟩ := hf
    exact ⟨rfl, vs, hvs, hz.2.2 vs hvs⟩
  have P1 := J.pin (a, oe) (List.mem_append_left _ List.mem_cons_self)
  have hpin : PinOk X.stack H s1 (a, oe) := ⟨P1.1, P1.2.1, fun hm => (List.mem_cons.mp (J.stkSub a hm)).elim P1.2.2.1 P1.2.2.2.1, P1.2.2.2.2⟩
  refine wpAny_call (codeAny_mono (F.run _ X.stack s1 H ⟨[u], []⟩ [u] Q (fun _ _ _ => False) (a, oe) (roomH_of (A := X.A) hr |> fun z => ⟨z.dp, z.un⟩) hot ⟨hz, hf⟩ hpin J.env0 b r hq) fun rr s' hres => ?_)
  cases rr with
  | error e =>
    obtain ⟨_, _, _, _, _, _, _, _, _, _, _, _, zz⟩ := hres
    exact zz.elim
  | ok fl =>
    cases fl with
    | ret u => exact J.after hres
    | next => exact False.elim hres
    | brk => exact False.elim hres
    | cont => exact False.elim hres⟩
def sTryW (wd : Addr → Option Str) (i : Nat) (tb : ST) : ST := fun e ρ => tb { e with xc := fun c ρ' => i < ρ'.length ∧ some! (wd c) fun z => e.rt (.d (.str z)) ρ' } ρ
theorem ds_tryW {p : Amb} {W : WX} {xk : Str} {CK : Addr} {body : List Stmt} {tb : ST} {np rp pos' tpos : Pos} (hs : X.stack = X.env :: X.outer) (hf : X.env.frame = some X.env.locals) (hN : X.N.Nodup) (hi : X.N[i]? = some n) (hln : X.env.kindOf n = some .local) (hc : Names X xk (.ref CK)) (tk : L2N.Takes X W)
    (hb : ∀ (W : WX) (pn : List (Addr × Obj)) (xe : Value → Shared → Prop), L2N.Takes (X.tr pn xe) W → PassesOwn (model X.prog X.w) X.A X.env xe → DSs (X.tr pn xe) p W body tb)
    (hex : ∀ D z, wd D = some z → PySem.W.exmOne X.K (.ref D) (.ref CK) = some true) (hW : ∀ D z, wd D = some z → FnW X.prog X.w X.K X.mg X.base k f fd y D z) (hr : Room k X.A) (hg : Gl X x) (hm : X.mg x = some (.ref f)) (hk : PySem.W.keepIn X.K (.ref f) = true) (hbd : Binds X.K fd [y] [])
    (hd1 : (n == ("__debug__" : Str)) = false := by decide) (hd2 : (n == ("__classdict__" : Str)) = false := by decide) (hdb : (x == ("__debug__" : Str)) = false := by decide)
    (he : starEach [.Name n p1] X.env = (false, eval (.Name n p1) X.env) :: starEach [] X.env := by rfl) (hpl : (backTo pos (starEach [] X.env)).any (·.1) = false := by rfl) :
    DS X p W (.Try body [.ExceptHandler (some (.Name xk np)) (some n) [.Return (some (.Call (.Name x q) [.Name n p1] [] pos)) rp] pos'] [] [] tpos) (sTryW wd i tb) :=
  ⟨PS.imp (L2N.ps_try_as (tb := fun W => liftS X.K p W tb) (ts := fun a cls d => tRet (tsWord wd i a cls d)) hs hf hN hi hln hc tk (fun W pn xe t po => (hb W pn xe t po).pss)
    (fun a oe cls d pn hz hfl => pss_one (ps_ret (pe_word (k := k) hz hfl hW hr hg hm hk hbd hi (.inl hln) hd1 hd2 hdb he hpl)))) fun D σ H ⟨M, ρ, e, S, h, l⟩ => by
    refine ⟨M, ρ, _, S, h, ⟨l.nx, l.bk, l.ct, l.rt, fun c M' σ' H' ρ' P' h' => ?_⟩⟩
    obtain ⟨hl, h'⟩ := h'
    obtain ⟨z, ez, h2⟩ := some!_ok h'
    refine ⟨true, hex c z ez, fun _ a ha => ⟨c, z, rfl, rfl, ez, List.getElem?_set_self (by rw [← P'.sim.len]; exact hl), fun H'' sm => ?_⟩, fun z => nomatch z⟩
    have dom : ∀ b, H' b ≠ none → H'' b ≠ none := fun b hb => by
      cases q : H' b with
      | none => exact absurd q hb
      | some o => rw [sm b o q]; exact fun z => nomatch z
    have P2 := P'.sim.post (M1 := M') ⟨fun b o e _ _ => sm b o e, fun b z => .inl z, fun b z _ => z, dom, fun b ⟨ps, e, t⟩ => ⟨ps, sm b _ e, t⟩⟩ fun b z => dom b (P'.sim.mok b z)
    exact l.rt (.str z) M' σ' H'' ρ' _ (P'.trans S P2) (RetOk.dd (.str z)) h2⟩
end
end DL

set_option Elab.async false
set_option linter.all false
set_option maxRecDepth 100000
set_option maxHeartbeats 4000000
namespace DL
open PySem PySem.Spec PyProof.Rows L2
/-! ### a def that may be called by its name -/
def CallD (P : Program) (w : World) (K : PySem.W.Frag) (mg : Str → Option Value) (base : Heap) (T : Addr → Prop) (k : Nat) (x : Str) (ps : List Str) (sp : PSp) : Prop :=
  ∃ (f : Addr) (fd : FuncData), FnOk P w K mg base (L2N.CX P w) k f fd ps (liftSp K T sp) ∧ mg x = some (.ref f) ∧ PySem.W.keepIn K (.ref f) = true ∧ Binds K fd ps []
def CallIO (P : Program) (w : World) (K : PySem.W.Frag) (mg : Str → Option Value) (base : Heap) (T : Addr → Prop) (k : Nat) (x : Str) (ps : List Str) (sp : PSpIO) : Prop :=
  ∃ (f : Addr) (fd : FuncData), FnOk P w K mg base (L2N.CX P w) k f fd ps (liftIO K T sp) ∧ mg x = some (.ref f) ∧ PySem.W.keepIn K (.ref f) = true ∧ Binds K fd ps []
section
variable {P : Program} {w : World} {K : PySem.W.Frag} {mg : Str → Option Value} {base : Heap} {T : Addr → Prop} {k j : Nat} {x : Str} {ps : List Str}
theorem CallD.mono {sp : PSp} (h : CallD P w K mg base T k x ps sp) (e : k ≤ j) : CallD P w K mg base T j x ps sp := by
  obtain ⟨f, fd, a, b, c, d⟩ := h
  exact ⟨f, fd, a.mono e, b, c, d⟩
theorem CallIO.mono {sp : PSpIO} (h : CallIO P w K mg base T k x ps sp) (e : k ≤ j) : CallIO P w K mg base T j x ps sp := by
  obtain ⟨f, fd, a, b, c, d⟩ := h
  exact ⟨f, fd, a.mono e, b, c, d⟩
/-- nothing is asked of it -/
theorem CallD.bot {f : Addr} {fd : FuncData} (hm : mg x = some (.ref f)) (hk : PySem.W.keepIn K (.ref f) = true) (hb : Binds K fd ps []) : CallD P w K mg base T k x ps (fun _ _ _ => False) :=
  ⟨f, fd, ⟨fun vs H Q E ⟨_, M, ds, q, x, _, _, z, _⟩ => z.elim, fun A outer s H args us vs Q E hr e0 b r ⟨_, M, ds, q, x, _, _, z, _⟩ => z.elim⟩, hm, hk, hb⟩
end
section
variable {X : Cx} {p : Amb} {W : WX} {k : Nat} {ps : List Str} {x : Str} {pp pos : Pos} {e a b : Expr} {es : List Expr} {t : AT} {ta tb : ET}
theorem de_c {sp : PSp} (F : CallD X.prog X.w X.K X.mg X.base p.tb k x ps sp) (tk : L2N.Takes X W) (hr : Room k X.A) (ha : DA X p W (e :: es) t) (hg : Gl X x := by rfl) (hdb : (x == ("__debug__" : Str)) = false := by decide) (he : starEach (e :: es) X.env = (false, eval e X.env) :: starEach es X.env := by rfl)
    (hpl : (backTo pos (starEach es X.env)).any (·.1) = false := by rfl) : DE X p W (.Call (.Name x pp) (e :: es) [] pos) (tCall' sp t) := by
  obtain ⟨f, fd, F, hm, hk, hb⟩ := F
  exact de_call F tk hr hg hm hk hb ha hdb he hpl
theorem de_cIO {sp : PSpIO} (F : CallIO X.prog X.w X.K X.mg X.base p.tb k x ps sp) (tk : L2N.Takes X W) (hr : Room k X.A) (ha : DA X p W (e :: es) t) (hg : Gl X x := by rfl) (hdb : (x == ("__debug__" : Str)) = false := by decide) (he : starEach (e :: es) X.env = (false, eval e X.env) :: starEach es X.env := by rfl)
    (hpl : (backTo pos (starEach es X.env)).any (·.1) = false := by rfl) : DE X p W (.Call (.Name x pp) (e :: es) [] pos) (tCallIO sp t) := by
  obtain ⟨f, fd, F, hm, hk, hb⟩ := F
  exact de_callIO F tk hr hg hm hk hb ha hdb he hpl
/-! ### divmod -/
def fDivmod : List D → (RV → Prop) → Prop := fun ds q => match ds with
  | [.int i, .int j] => CDivP i j ∧ q (.d (.tup [.int (i / j), .int (i % j)]))
  | _ => False
theorem divmod_ok {K : PySem.W.Frag} : RCD K (fun xs H Q => ∃ i j, xs = [.int i, .int j] ∧ CDivP i j ∧ ∀ p, H p = none → Q (.ref p) (upd H p (.tup [.int (i / j), .int (i % j)]))) fDivmod := by
  intro M H vs ds Q q mok r h k
  unfold fDivmod at h
  split at h
  next i j =>
    obtain ⟨v, u, rfl, r1, r2⟩ := r.two
    rw [r1.int, r2.int]
    exact ⟨i, j, rfl, h.1, fun p hp => k _ M _ _ (ResOk.tup mok hp (.cons (.int _) (.cons (.int _) .nil))) h.2⟩
  next => exact h.elim
theorem de_divmod {pos' : Pos} (hm : X.mg "divmod" = none) (ha : DE X p W a ta) (hb : DE X p W b tb) (hg : Gl X "divmod" := by rfl) (he : starEach [a, b] X.env = (false, eval a X.env) :: starEach [b] X.env := by rfl) (he2 : starEach [b] X.env = (false, eval b X.env) :: starEach [] X.env := by rfl) (hpl : (backTo pos (starEach [b] X.env)).any (·.1) = false := by rfl) :
    DE X p W (.Call (.Name "divmod" pos') [a, b] [] pos) (tC' fDivmod (aCons ta (aCons tb aNil))) := de_callB call_divmodW divmod_ok hg hm (by decide +kernel) (da_cons ha (da_cons hb da_nil he2) he) (by decide) (by decide) he hpl
end
/-- the word of an error, in the suite of a try -/
structure WordOk (P : Program) (w : World) (K : PySem.W.Frag) (mg : Str → Option Value) (base : Heap) (k : Nat) (x : Str) (CK f : Addr) (fd : FuncData) (wd : Addr → Option Str) : Prop where
  ex : ∀ D z, wd D = some z → PySem.W.exmOne K (.ref D) (.ref CK) = some true
  fn : ∀ D z, wd D = some z → FnW P w K mg base k f fd "e" D z
  mg : mg x = some (.ref f)
  kp : PySem.W.keepIn K (.ref f) = true
  bd : Binds K fd ["e"] []
section
variable {X : Cx} {p : Amb} {W : WX}
theorem de_lc' {elt tg iter : Expr} {ifs : List Expr} {scope : Scope} {own : List (Str × Nat)} {pos : Pos} {ti : IT} {g : GT} {tt : BT} {te : ET} {sl vs : List Nat} (hc : X.calm = true) (hN : X.N.Nodup) (hi : DI X p W tg iter ti) (ok : BlkOk X.N X.env.scope scope own)
    (hg : ∀ (s : Shared) (H : Hp) (C : Addr) (cl : List (Str × Addr)) (fp : List Addr), DG (X.blk s H scope (compEnvC scope cl C X.env) fp) p tg sl g) (ht : ∀ (s : Shared) (H : Hp) (C : Addr) (cl : List (Str × Addr)) (fp : List Addr), DTs (X.blk s H scope (compEnvC scope cl C X.env) fp) p wNo ifs tt)
    (he : ∀ (s : Shared) (H : Hp) (C : Addr) (cl : List (Str × Addr)) (fp : List Addr), DE (X.blk s H scope (compEnvC scope cl C X.env) fp) p wNo elt te) (hsl : (sl.all fun j => vs.contains j) = true) (hv : own.map (·.2) = vs := by rfl) (hs : ∀ x, foldedSetIterable iter X.env x = pure x := by intro _; rfl) :
    DE X p W (.ListComp elt [⟨tg, iter, ifs, 0⟩] scope pos) (tLc' ti g tt te vs) := by
  subst hv
  exact de_lc hc hN hi ok hg ht he hsl hs

theorem ds_setLc' {i : Nat} {y : Str} {py : Pos} {elt tg iter : Expr} {ifs : List Expr} {scope : Scope} {own : List (Str × Nat)} {pos spos : Pos} {ti : IT} {g : GT} {tt : BT} {te : ET} {sl vs : List Nat} (hc : X.calm = true) (hN : X.N.Nodup) (hy : X.N[i]? = some y) (hyl : X.env.scope.names.lookup y = some .local)
    (hsw : swapsWith (.ListComp elt [⟨tg, iter, ifs, 0⟩] scope pos) (some (.Name y py)) spos.line X.env = pure true) (hi : DI X p W tg iter ti) (ok : BlkOk X.N X.env.scope scope own)
    (hg : ∀ (s : Shared) (H : Hp) (C : Addr) (cl : List (Str × Addr)) (fp : List Addr), DG (X.blk s H scope (compEnvC scope cl C X.env) fp) p tg sl g) (ht : ∀ (s : Shared) (H : Hp) (C : Addr) (cl : List (Str × Addr)) (fp : List Addr), DTs (X.blk s H scope (compEnvC scope cl C X.env) fp) p wNo ifs tt)
    (he : ∀ (s : Shared) (H : Hp) (C : Addr) (cl : List (Str × Addr)) (fp : List Addr), DE (X.blk s H scope (compEnvC scope cl C X.env) fp) p wNo elt te) (hsl : (sl.all fun j => vs.contains j) = true) (hv : own.map (·.2) = vs := by rfl) (hs : ∀ x, foldedSetIterable iter X.env x = pure x := by intro _; rfl) :
    DS X p W (.Assign [.Name y py] (.ListComp elt [⟨tg, iter, ifs, 0⟩] scope pos) spos) (sSet i (tLc' ti g tt te vs)) := by
  subst hv
  exact ds_setLc hc hN hy hyl hsw hi ok hg ht he hsl hs
end
/-- the law's head: the script is a list that is read alone -/
theorem script_lift {K : PySem.W.Frag} {T : Addr → Prop} {sp : PSp} {H : Hp} {a : Addr} {ns : List Int} (h : sp [.fz (ns.map .int)] (fun r => r = .d (.bl true)) fun _ => False) (hT : ∀ a, T a → GxR.TabG H a) (hS : SqL K H a (ns.map V.int)) :
    liftSp K T sp [.ref a] H (fun v _ => v = .bl true) fun _ _ _ => False := by
  refine ⟨hT, fun _ => False, [.fz (ns.map .int)], _, _, fun a z => z.elim, .cons (.fz ?_ (RepL.of_ints ns)) .nil, h, fun v M' H' r ok e => ?_, fun c M' H' _ _ z => z⟩
  · rcases hS with hS | hS
    · exact .inl ⟨hS, fun z => z⟩
    · exact .inr hS
  · subst e
    have R : Rep K M' H' v (.bl true) := ok.res
    cases R
    rfl
section
variable {X : Cx}
open L2H HotX
theorem pe_lcHot' {elt tg l : Expr} {ifs : List Expr} {scope : Scope} {own : List (Str × Nat)} {pos : Pos} {tl : TE} {g : TG} {tt : TT} {te : TE} {vs : List Nat} (hot : HotC X) (hN : X.N.Nodup) (hl : PE X l tl) (ok : BlkOk X.N X.env.scope scope own)
    (hg : ∀ (s : Shared) (H : Hp) (C : Addr) (cl : List (Str × Addr)) (fp : List Addr), PG (X.blk s H scope (compEnvC scope cl C X.env) fp) tg g) (ht : ∀ (s : Shared) (H : Hp) (C : Addr) (cl : List (Str × Addr)) (fp : List Addr), PTs (X.blk s H scope (compEnvC scope cl C X.env) fp) ifs tt)
    (he : ∀ (s : Shared) (H : Hp) (C : Addr) (cl : List (Str × Addr)) (fp : List Addr), PE (X.blk s H scope (compEnvC scope cl C X.env) fp) elt te) (hv : own.map (·.2) = vs := by rfl) (hs : ∀ x, foldedSetIterable l X.env x = pure x := by intro _; rfl) :
    PE X (.ListComp elt [⟨tg, l, ifs, 0⟩] scope pos) (tLcHot X.K tl g tt te vs) := by
  subst hv
  exact pe_lcHot hot hN hl ok hg ht he hs
end
section
variable {K : PySem.W.Frag} {D C : Addr} {b : Bool}
theorem cls_of (ic : PySem.W.isClsIn K C = true) (tC : PySem.W.typeIn K (.ref C) = some (.type "type")) (s : PySem.W.subIn K (.ref D) (.ref C) = some b) : PySem.W.kitCls K (.ref D) (.ref C) = some b := by
  have ic : (PySem.W.clsIn K C).isSome = true := ic
  show (if ((PySem.W.clsIn K C).isSome && PySem.W.typeIn K (.ref C) == some (.type "type")) = true then PySem.W.subIn K (.ref D) (.ref C) else none) = _
  rw [ic, tC, s]
  rfl
theorem kit_own (ic : PySem.W.isClsIn K C = true) (tC : PySem.W.typeIn K (.ref C) = some (.type "type")) (s : PySem.W.subIn K (.ref D) (.ref C) = some b) (sD : PySem.W.subIn K (.ref D) (.ref D) = some true) : PySem.W.kitOne K (.ref D) (.ref C) = some b := by
  unfold PySem.W.kitOne
  by_cases e : ((.ref D : Value) == .ref C) = true
  · rw [if_pos e]
    have e2 : D = C := by
      have := beq_iff_eq.mp e
      cases this
      rfl
    subst e2
    exact sD.symm.trans s
  · rw [if_neg e]
    exact cls_of ic tC s
theorem exm_own (ic : PySem.W.isClsIn K C = true) (bC : PySem.W.subIn K (.ref C) (.type "BaseException") = some true) (tC : PySem.W.typeIn K (.ref C) = some (.type "type")) (s : PySem.W.subIn K (.ref D) (.ref C) = some b) : PySem.W.exmOne K (.ref D) (.ref C) = some b := by
  unfold PySem.W.exmOne
  rw [bC]
  exact cls_of ic tC s
end
end DL

set_option Elab.async false
set_option linter.all false
set_option maxRecDepth 100000
set_option maxHeartbeats 4000000
namespace DL
open PySem PySem.Spec PyProof.Rows L2
/-! ### the readings, step by step -/
/-- what follows, to be left alone while the step ahead of it is done -/
inductive Tag {α : Type} (a : α) : Type
  | mk
def sm {α : Type} (o : Option α) (q : α → Prop) (_ : Tag q) : Prop := some! o q
def fm1 (f : D → (RV → Prop) → Prop) (o : Option D) (q : RV → Prop) (_ : Tag (f, q)) : Prop := f1 f o q
def fm2 (f : D → D → (RV → Prop) → Prop) (o p : Option D) (q : RV → Prop) (_ : Tag (f, q)) : Prop := f2 f o p q
def br (b : Bool) (p q : Prop) (_ : Tag (p, q)) : Prop := if b = true then p else q
theorem sm_ {α : Type} {o : Option α} {q : α → Prop} : some! o q = sm o q .mk := rfl
theorem fm1_ {f : D → (RV → Prop) → Prop} {o : Option D} {q : RV → Prop} : f1 f o q = fm1 f o q .mk := rfl
theorem fm2_ {f : D → D → (RV → Prop) → Prop} {o p : Option D} {q : RV → Prop} : f2 f o p q = fm2 f o p q .mk := rfl
theorem br_ {b : Bool} {p q : Prop} : (if b = true then p else q) = br b p q .mk := rfl
theorem sm_some {α : Type} {a : α} {q : α → Prop} {t} : sm (some a) q t = q a := rfl
theorem fm1_some {f : D → (RV → Prop) → Prop} {a : D} {q : RV → Prop} {t} : fm1 f (some a) q t = f a q := rfl
theorem fm2_some {f : D → D → (RV → Prop) → Prop} {a b : D} {q : RV → Prop} {t} : fm2 f (some a) (some b) q t = f a b q := rfl
theorem br_true {p q : Prop} {t} : br true p q t = p := rfl
theorem br_false {p q : Prop} {t} : br false p q t = q := rfl
theorem br_not {b : Bool} {p q : Prop} {t} : br (!b) p q t = br b q p .mk := by cases b <;> rfl
theorem br_dec {c : Prop} [Decidable c] {p q : Prop} {t} : br (decide c) p q t = if c then p else q := by
  unfold br
  by_cases h : c
  · rw [if_pos h, if_pos (decide_eq_true h)]
  · rw [if_neg h, if_neg (by rw [decide_eq_false h]; decide)]
theorem br_any {b : Bool} {p q : Prop} {t} : br b p q t = if b = true then p else q := rfl
section
variable {ρ : Ev} {q : EK} {x : XQ} {qb : Bool → Ev → Prop} {qa : List RV → Ev → Prop} {e : SE}
theorem sNext_ : sNext e ρ = e.nx ρ := rfl
theorem sSeq_ {t u : ST} : sSeq t u e ρ = t { e with nx := u e } ρ := rfl
theorem sBreak_ : sBreak e ρ = e.bk ρ := rfl
theorem sCont_ : sCont e ρ = e.ct ρ := rfl
theorem sExpr_ {t : ET} : sExpr t e ρ = t ρ (fun _ ρ1 => e.nx ρ1) e.xc := rfl
theorem sRet_ {t : ET} : sRet t e ρ = t ρ (fun r ρ1 => some! (retR ρ1 r) fun z => e.rt z ρ1) e.xc := rfl
theorem sRetN_ : sRetN e ρ = e.rt (.d .non) ρ := rfl
theorem sIf_ {c : BT} {t u : ST} : sIf c t u e ρ = c ρ (fun b ρ1 => if b = true then t e ρ1 else u e ρ1) e.xc := rfl
theorem sSet_ {i : Nat} {t : ET} : sSet i t e ρ = t ρ (fun r ρ1 => some! (store i ρ1 r) e.nx) e.xc := rfl
theorem sAug_ {f : D → D → (RV → Prop) → Prop} {i : Nat} {t : ET} : sAug f i t e ρ = some! (slR i ρ[i]?) fun s => t ρ (fun r ρ1 => f2 f (rd ρ1 s) (rd ρ1 r) fun z => some! (store i ρ1 z) e.nx) e.xc := rfl
theorem sPar_ {i j : Nat} {ta tb : ET} : sPar i j ta tb e ρ = ta ρ (fun r ρ1 => tb ρ1 (fun s ρ2 => some! (ripe ρ2 s) fun z => some! (store i z.2 r) fun ρ3 => some! (store j ρ3 z.1) e.nx) e.xc) e.xc := rfl
theorem sAsg_ {t : ET} {g : GT} : sAsg t g e ρ = t ρ (fun r ρ1 => some! (settle ρ1 r) fun z => g z.1 z.2 e.nx) e.xc := rfl
theorem sRaise_ {C : Addr} : sRaise C e ρ = e.xc C ρ := rfl
theorem sTryW_ {wd : Addr → Option Str} {i : Nat} {tb : ST} : sTryW wd i tb e ρ = tb { e with xc := fun c ρ' => i < ρ'.length ∧ some! (wd c) fun z => e.rt (.d (.str z)) ρ' } ρ := rfl
theorem tK_ {v : D} : tK v ρ q x = q (.d v) ρ := rfl
theorem tV_ {i : Nat} : tV i ρ q x = some! (slR i ρ[i]?) fun r => q r ρ := rfl
theorem t2_ {f : D → D → (RV → Prop) → Prop} {ta tb : ET} : t2 f ta tb ρ q x = ta ρ (fun r ρ1 => tb ρ1 (fun s ρ2 => f2 f (rd ρ2 r) (rd ρ2 s) fun z => q z ρ2) x) x := rfl
theorem t1_ {f : D → (RV → Prop) → Prop} {ta : ET} : t1 f ta ρ q x = ta ρ (fun r ρ1 => f1 f (rd ρ1 r) fun z => q z ρ1) x := rfl
theorem tT_ {t : ET} : tT t ρ qb x = t ρ (fun r ρ1 => some! (blR r) fun b => qb b ρ1) x := rfl
theorem tTr_ {t : ET} : tTr t ρ qb x = t ρ (fun r ρ1 => some! (rd ρ1 r) fun d => truD d fun b => qb b ρ1) x := by
  unfold tTr
  congr 1
  funext r ρ1
  cases rd ρ1 r <;> rfl
theorem tCh_ {f g : D → D → (RV → Prop) → Prop} {ta tb tc : ET} : tCh f g ta tb tc ρ q x = ta ρ (fun r ρ1 => tb ρ1 (fun s ρ2 => f2 f (rd ρ2 r) (rd ρ2 s) fun z => some! (blR z) fun k =>
  if k = true then tc ρ2 (fun u ρ3 => f2 g (rd ρ3 s) (rd ρ3 u) fun z2 => q z2 ρ3) x else q (.d (.bl false)) ρ2) x) x := rfl
theorem bAnd_ {ta tb : BT} : bAnd ta tb ρ qb x = ta ρ (fun k ρ1 => if k = true then tb ρ1 qb x else qb false ρ1) x := rfl
theorem bOr_ {ta tb : BT} : bOr ta tb ρ qb x = ta ρ (fun k ρ1 => if k = true then qb true ρ1 else tb ρ1 qb x) x := rfl
theorem bNot_ {ta : BT} : bNot ta ρ qb x = ta ρ (fun k ρ1 => qb (!k) ρ1) x := rfl
theorem bYes_ : bYes ρ qb x = qb true ρ := rfl
theorem tAnd_ {ta tb : ET} : tAnd' ta tb ρ q x = ta ρ (fun r ρ1 => some! (blR r) fun k => if k = true then tb ρ1 q x else q (.d (.bl false)) ρ1) x := rfl
theorem tOr_ {ta tb : ET} : tOr' ta tb ρ q x = ta ρ (fun r ρ1 => some! (blR r) fun k => if k = true then q (.d (.bl true)) ρ1 else tb ρ1 q x) x := rfl
theorem tNot_ {ta : ET} : tNot' ta ρ q x = ta ρ (fun r ρ1 => some! (blR r) fun k => q (.d (.bl (!k))) ρ1) x := rfl
theorem tIf_ {tc : BT} {ta tb : ET} : tIf' tc ta tb ρ q x = tc ρ (fun k ρ1 => if k = true then ta ρ1 q x else tb ρ1 q x) x := rfl
theorem aNil_ : aNil ρ qa x = qa [] ρ := rfl
theorem aCons_ {ta : ET} {tr : AT} : aCons ta tr ρ qa x = ta ρ (fun r ρ1 => tr ρ1 (fun rs ρ2 => qa (cool r :: rs) ρ2) x) x := rfl
theorem tC_ {f : List D → (RV → Prop) → Prop} {ta : AT} : tC' f ta ρ q x = ta ρ (fun rs ρ1 => some! (rdL ρ1 rs) fun ds => f ds fun z => q z ρ1) x := rfl
theorem tTup_ {ta : AT} : tTup' ta ρ q x = ta ρ (fun rs ρ1 => some! (settleL ρ1 rs) fun z => z.1.length ≤ 1000 ∧ q (.d (.tup z.1)) z.2) x := rfl
theorem tLst_ {ta : AT} : tLst' ta ρ q x = ta ρ (fun rs ρ1 => some! (settleL ρ1 rs) fun z => z.1.length ≤ 1000 ∧ q (.n (.lst z.1)) z.2) x := rfl
theorem tCall_ {sp : PSp} {ta : AT} : tCall' sp ta ρ q x = ta ρ (fun rs ρ1 => some! (settleL ρ1 rs) fun z => sp z.1 (fun r => q r z.2) (fun c => x c z.2)) x := rfl
/-- the first of the arguments: the slot's own thing -/
def ioR : List RV → Option (Nat × List RV)
  | .o i :: rs => some (i, rs)
  | _ => none
theorem ioR_ {i : Nat} {rs : List RV} : ioR (.o i :: rs) = some (i, rs) := rfl
theorem tCallIO_ {sp : PSpIO} {ta : AT} : tCallIO sp ta ρ q x = ta ρ (fun rs ρ1 => some! (ioR rs) fun u => some! (settleL ρ1 u.2) fun z => some! (ownS z.2[u.1]?) fun d => sp d z.1 (fun r y => q r (put u.1 y z.2)) (fun c y => x c (put u.1 y z.2))) x := by
  unfold tCallIO
  congr 1
  funext rs ρ1
  match rs with
  | [] => rfl
  | .d _ :: _ => rfl
  | .n _ :: _ => rfl
  | .o i :: rs' => rfl
theorem tAppend_ {to : ET} {ta : AT} : tAppend to ta ρ q x = to ρ (fun r ρ1 => some! (ownL ρ1 r) fun _ => ta ρ1 (fun rs ρ2 => some! (settleL ρ2 rs) fun z => some! (match z.1 with | [y] => some y | _ => none) fun y => some! (ownL z.2 r) fun a => a.2.length < sizeLine ∧ q (.d .non) (put a.1 (.lst (a.2 ++ [y])) z.2)) x) x := by
  unfold tAppend
  congr 1
  funext r ρ1
  congr 1
  funext _
  congr 1
  funext rs ρ2
  congr 1
  funext z
  obtain ⟨z1, z2⟩ := z
  match z1 with
  | [] => rfl
  | [y] => rfl
  | _ :: _ :: _ => rfl
theorem tPop_ {to : ET} : tPop to ρ q x = to ρ (fun r ρ1 => some! (ownL ρ1 r) fun a => some! a.2[a.2.length - 1]? fun y => q (.d y) (put a.1 (.lst a.2.dropLast) ρ1)) x := rfl
theorem oNone_ {qo : Option Int → Ev → Prop} : oNone ρ qo x = qo none ρ := rfl
theorem oSome_ {t : ET} {qo : Option Int → Ev → Prop} : oSome t ρ qo x = t ρ (fun r ρ1 => some! (intR ρ1 r) fun i => qo (some i) ρ1) x := rfl
theorem tSl_ {te : ET} {tl th : OT} : tSl' te tl th ρ q x = te ρ (fun r ρ1 => tl ρ1 (fun lo ρ2 => th ρ2 (fun hi ρ3 => f1 (fun d k => fSl d lo hi k) (rd ρ3 r) fun z => q z ρ3) x) x) x := rfl
theorem iSeqD_ {te : ET} {qi : List D → Ev → Prop} : iSeqD te ρ qi x = te ρ (fun r ρ1 => some! (settle ρ1 r) fun z => some! (seqS z.1) fun ds => qi ds z.2) x := rfl
def intsR : List RV → Option (List Int)
  | [] => some []
  | .d (.int i) :: rs => (intsR rs).map (i :: ·)
  | _ => none
theorem iR1_ {ta : AT} {qi : List D → Ev → Prop} : iR1 ta ρ qi x = ta ρ (fun rs ρ1 => match rs with
  | [.d (.int j)] => -(2 ^ 62) ≤ j ∧ j < 2 ^ 62 ∧ qi (rngD 0 j.toNat) ρ1
  | _ => False) x := rfl
theorem iR2_ {ta : AT} {qi : List D → Ev → Prop} : iR2 ta ρ qi x = ta ρ (fun rs ρ1 => match rs with
  | [.d (.int i), .d (.int j)] => (-(2 ^ 62) ≤ i ∧ i < 2 ^ 62 ∧ -(2 ^ 62) ≤ j ∧ j < 2 ^ 62) ∧ qi (rngD i (j - i).toNat) ρ1
  | _ => False) x := rfl
theorem iR3_ {ta : AT} {qi : List D → Ev → Prop} : iR3 ta ρ qi x = ta ρ (fun rs ρ1 => match rs with
  | [.d (.int i), .d (.int j), .d (.int c)] => ∃ n, RgC i j c n ∧ qi (rngC i c n) ρ1
  | _ => False) x := rfl
theorem gVar_ {i : Nat} {d : D} {qg : Ev → Prop} : gVar i d ρ qg = qg (ρ.set i (.va d)) := rfl
theorem gTup_ {n : Nat} {gs : GTs} {ds : List D} {qg : Ev → Prop} : gTupD n gs (.tup ds) ρ qg = (ds.length = n ∧ gs ds ρ qg) := rfl
theorem gsNil_ {qg : Ev → Prop} : gsNil [] ρ qg = qg ρ := rfl
theorem gsCons_ {g : GT} {gs : GTs} {d : D} {ds : List D} {qg : Ev → Prop} : gsCons g gs (d :: ds) ρ qg = g d ρ fun ρ' => gs ds ρ' qg := rfl
theorem gSetL_ {to ti : ET} {d : D} {qg : Ev → Prop} : gSetL to ti d ρ qg = to ρ (fun r ρ1 => ti ρ1 (fun s ρ2 => some! (ownL ρ2 r) fun a => some! (intR ρ2 s) fun k => some! (ixN a.2.length k) fun j => qg (put a.1 (.lst (a.2.set j d)) ρ2)) fun _ _ => False) fun _ _ => False := rfl
end
section
variable {d : D} {i j : Int} {n : Nat} {ρ ρ' : Ev} {q : RV → Prop} {xs : List D} {b b' : Bool}
theorem rd_d : rd ρ (.d d) = some d := rfl
theorem rd_n : rd ρ (.n d) = some d := rfl
theorem rd_o : rd ρ (.o n) = rdS ρ[n]? := rfl
theorem rdS_va : rdS (some (.va d)) = some d := rfl
theorem rdS_ow : rdS (some (.ow d)) = some d := rfl
theorem rdS_io : rdS (some (.io d)) = some d := rfl
theorem slR_va : slR n (some (.va d)) = some (.d d) := rfl
theorem slR_ow : slR n (some (.ow d)) = some (.o n) := rfl
theorem slR_io : slR n (some (.io d)) = some (.o n) := rfl
theorem blR_ : blR (.d (.bl b)) = some b := rfl
theorem intR_ : intR ρ (.d (.int i)) = some i := rfl
theorem cool_d : cool (.d d) = .d d := rfl
theorem cool_n' : cool (.n d) = .d d := rfl
theorem cool_o : cool (.o n) = .o n := rfl
theorem rdL_nil : rdL ρ [] = some [] := rfl
theorem rdL_d {rs : List RV} (h : rdL ρ rs = some xs) : rdL ρ (.d d :: rs) = some (d :: xs) := by
  show (match some d, rdL ρ rs with | some x, some xs => some (x :: xs) | _, _ => none) = _
  rw [h]
theorem rdL_c {r : RV} {rs : List RV} : rdL ρ (r :: rs) = match rd ρ r, rdL ρ rs with | some x, some xs => some (x :: xs) | _, _ => none := rfl
theorem settle_d : settle ρ (.d d) = some (d, ρ) := rfl
theorem settle_n : settle ρ (.n d) = some (d, ρ) := rfl
theorem settle_o : settle ρ (.o n) = settleS n ρ ρ[n]? := rfl
theorem settleS_va : settleS n ρ (some (.va d)) = some (d, ρ) := rfl
theorem settleS_ow : settleS n ρ (some (.ow d)) = some (d, ρ.set n (.va d)) := rfl
theorem settleL_nil : settleL ρ [] = some ([], ρ) := rfl
theorem settleL_c {r : RV} {rs : List RV} : settleL ρ (r :: rs) = match settle ρ r with
    | some (x, ρ1) => match settleL ρ1 rs with
      | some (xs, ρ2) => some (x :: xs, ρ2)
      | none => none
    | none => none := rfl
theorem settleL_d {rs : List RV} : settleL ρ (.d d :: rs) = match settleL ρ rs with
      | some (xs, ρ2) => some (d :: xs, ρ2)
      | none => none := rfl
theorem store_d : store n ρ (.d d) = some (ρ.set n (.va d)) := rfl
theorem store_n : store n ρ (.n d) = some (ρ.set n (.ow d)) := rfl
theorem store_o {m : Nat} : store n ρ (.o m) = storeS n m ρ ρ[m]? := rfl
theorem storeS_ow {m : Nat} : storeS n m ρ (some (.ow d)) = some ((ρ.set m (.va d)).set n (.va d)) := rfl
theorem retR_d : retR ρ (.d d) = some (.d d) := rfl
theorem retR_n : retR ρ (.n d) = some (.n d) := rfl
theorem retR_o : retR ρ (.o n) = retS ρ[n]? := rfl
theorem retS_ow : retS (some (.ow d)) = some (.n d) := rfl
theorem ripe_d : ripe ρ (.d d) = some (.d d, ρ) := rfl
theorem ripe_n : ripe ρ (.n d) = some (.n d, ρ) := rfl
theorem ownL_o : ownL ρ (.o n) = match ownS ρ[n]? with | some (.lst xs) => some (n, xs) | _ => none := rfl
theorem ownS_ow : ownS (some (.ow d)) = some d := rfl
theorem ownS_io : ownS (some (.io d)) = some d := rfl
theorem put_ : put n d ρ = putS n d ρ ρ[n]? := rfl
theorem putS_ow {d' : D} : putS n d ρ (some (.ow d')) = ρ.set n (.ow d) := rfl
theorem putS_io {d' : D} : putS n d ρ (some (.io d')) = ρ.set n (.io d) := rfl
theorem seqS_lst : seqS (.lst xs) = some xs := rfl
theorem seqS_tup : seqS (.tup xs) = some xs := rfl
theorem seqS_fz : seqS (.fz xs) = some xs := rfl
theorem ioS_io : ioS (some (.io d)) = some d := rfl
theorem fI_ {C : Int → Int → Prop} {g : Int → Int → D} : fI C g (.int i) (.int j) q = (C i j ∧ q (.d (g i j))) := rfl
theorem fI0_ {g : Int → Int → D} : fI0 g (.int i) (.int j) q = q (.d (g i j)) := rfl
theorem fAdd_i : fAdd (.int i) (.int j) q = q (.d (.int (i + j))) := rfl
theorem fAdd_l {ys : List D} : fAdd (.lst xs) (.lst ys) q = (xs.length + ys.length ≤ sizeLine ∧ q (.n (.lst (xs ++ ys)))) := rfl
theorem fMul_i : fMul (.int i) (.int j) q = (CMulX i j ∧ q (.d (.int (i * j)))) := rfl
theorem fMul_l : fMul (.lst xs) (.int j) q = (-(2 ^ 63) ≤ j ∧ j < 2 ^ 63 ∧ xs.length * j.toNat ≤ sizeLine ∧ q (.n (.lst (List.replicate j.toNat xs).flatten))) := rfl
theorem fIx_l : fIx (.lst xs) (.int i) q = some! (atI xs i) fun x => q (.d x) := rfl
theorem fIx_t : fIx (.tup xs) (.int i) q = some! (atI xs i) fun x => q (.d x) := rfl
theorem fIx_f : fIx (.fz xs) (.int i) q = some! (atI xs i) fun x => q (.d x) := rfl
theorem fNeg_ : fNeg (.int i) q = q (.d (.int (-i))) := rfl
theorem fLen_l : fLen [.lst xs] q = q (.d (.int (xs.length : Int))) := rfl
theorem fLen_t : fLen [.tup xs] q = q (.d (.int (xs.length : Int))) := rfl
theorem fLen_f : fLen [.fz xs] q = q (.d (.int (xs.length : Int))) := rfl
theorem fAbs_ : fAbs [.int i] q = q (.d (.int (if i < 0 then -i else i))) := rfl
theorem fInt1_i : fInt1 [.int i] q = q (.d (.int i)) := rfl
theorem fInt1_b : fInt1 [.bl b] q = q (.d (.int (if b then 1 else 0))) := rfl
theorem fInts2_ {g : Int → Int → Int} : fInts2 g [.int i, .int j] q = q (.d (.int (g i j))) := rfl
theorem fTuple_l : fTuple [.lst xs] q = q (.d (.tup xs)) := rfl
theorem fTuple_t : fTuple [.tup xs] q = q (.d (.tup xs)) := rfl
theorem fList_l : fList [.lst xs] q = q (.n (.lst xs)) := rfl
theorem fList_t : fList [.tup xs] q = q (.n (.lst xs)) := rfl
theorem fList_f : fList [.fz xs] q = q (.n (.lst xs)) := rfl
theorem fLRev_ : fLRev (.lst xs) q = q (.n (.lst xs.reverse)) := rfl
theorem fDivmod_ : fDivmod [.int i, .int j] q = (CDivP i j ∧ q (.d (.tup [.int (i / j), .int (i % j)]))) := rfl
theorem fIsi_ {T : TyN} : fIsi T d q = some! (isD T d) fun b => q (.d (.bl b)) := rfl
theorem fIs_n {k : Bool} : fIs k d .non q = some! (isNon d) fun z => q (.d (.bl (k ^^ z))) := rfl
theorem fEq_i : fEq (.int i) (.int j) q = q (.d (.bl (decide (i = j)))) := rfl
theorem fEq_b : fEq (.bl b) (.bl b') q = q (.d (.bl (decide (b = b')))) := rfl
theorem fNe_i : fNe (.int i) (.int j) q = q (.d (.bl (!decide (i = j)))) := rfl
theorem fNe_b : fNe (.bl b) (.bl b') q = q (.d (.bl (!decide (b = b')))) := rfl
theorem fEq_t {ys : List D} : fEq (.tup xs) (.tup ys) q = (shD (.tup xs) ∧ shD (.tup ys) ∧ q (.d (.bl (eqD (.tup xs) (.tup ys))))) := rfl
theorem fEq_l {ys : List D} : fEq (.lst xs) (.lst ys) q = (shD (.lst xs) ∧ shD (.lst ys) ∧ q (.d (.bl (eqD (.lst xs) (.lst ys))))) := rfl
theorem fNe_l {ys : List D} : fNe (.lst xs) (.lst ys) q = (shD (.lst xs) ∧ shD (.lst ys) ∧ q (.d (.bl (!eqD (.lst xs) (.lst ys))))) := rfl
theorem fNe_t {ys : List D} : fNe (.tup xs) (.tup ys) q = (shD (.tup xs) ∧ shD (.tup ys) ∧ q (.d (.bl (!eqD (.tup xs) (.tup ys))))) := rfl
theorem fEq_s {x y : Str} : fEq (.str x) (.str y) q = (shD (.str x) ∧ shD (.str y) ∧ q (.d (.bl (eqD (.str x) (.str y))))) := rfl
theorem truD_b {qb : Bool → Prop} : truD (.bl b) qb = qb b := rfl
theorem truD_i {qb : Bool → Prop} : truD (.int i) qb = qb (i != 0) := rfl
theorem truD_n {qb : Bool → Prop} : truD .non qb = qb false := rfl
end

theorem atI_at {α : Type} {l : List α} {i : Int} {n : Nat} {x : α} (e : i = (n : Int)) (h : l[n]? = some x) : atI l i = some x := by
  subst e
  have hn : n < l.length := (List.getElem?_eq_some_iff.mp h).1
  unfold atI ixN
  rw [if_pos (Int.natCast_nonneg n), if_pos (Int.ofNat_lt.mpr hn)]
  exact h
theorem atI_0 {α : Type} {a : α} {l : List α} : atI (a :: l) 0 = some a := atI_at (n := 0) rfl rfl
theorem atI_1 {α : Type} {a b : α} {l : List α} : atI (a :: b :: l) 1 = some b := atI_at (n := 1) rfl rfl
theorem atI_2 {α : Type} {a b c : α} {l : List α} : atI (a :: b :: c :: l) 2 = some c := atI_at (n := 2) rfl rfl
theorem atI_3 {α : Type} {a0 a1 a2 a3 : α} {l : List α} : atI (a0 :: a1 :: a2 :: a3 :: l) 3 = some a3 := atI_at (n := 3) rfl rfl
theorem atI_4 {α : Type} {a0 a1 a2 a3 a4 : α} {l : List α} : atI (a0 :: a1 :: a2 :: a3 :: a4 :: l) 4 = some a4 := atI_at (n := 4) rfl rfl
theorem atI_5 {α : Type} {a0 a1 a2 a3 a4 a5 : α} {l : List α} : atI (a0 :: a1 :: a2 :: a3 :: a4 :: a5 :: l) 5 = some a5 := atI_at (n := 5) rfl rfl
theorem atI_6 {α : Type} {a0 a1 a2 a3 a4 a5 a6 : α} {l : List α} : atI (a0 :: a1 :: a2 :: a3 :: a4 :: a5 :: a6 :: l) 6 = some a6 := atI_at (n := 6) rfl rfl
theorem atI_7 {α : Type} {a0 a1 a2 a3 a4 a5 a6 a7 : α} {l : List α} : atI (a0 :: a1 :: a2 :: a3 :: a4 :: a5 :: a6 :: a7 :: l) 7 = some a7 := atI_at (n := 7) rfl rfl
theorem atI_8 {α : Type} {a0 a1 a2 a3 a4 a5 a6 a7 a8 : α} {l : List α} : atI (a0 :: a1 :: a2 :: a3 :: a4 :: a5 :: a6 :: a7 :: a8 :: l) 8 = some a8 := atI_at (n := 8) rfl rfl
theorem atI_9 {α : Type} {a0 a1 a2 a3 a4 a5 a6 a7 a8 a9 : α} {l : List α} : atI (a0 :: a1 :: a2 :: a3 :: a4 :: a5 :: a6 :: a7 :: a8 :: a9 :: l) 9 = some a9 := atI_at (n := 9) rfl rfl
theorem atI_10 {α : Type} {a0 a1 a2 a3 a4 a5 a6 a7 a8 a9 a10 : α} {l : List α} : atI (a0 :: a1 :: a2 :: a3 :: a4 :: a5 :: a6 :: a7 :: a8 :: a9 :: a10 :: l) 10 = some a10 := atI_at (n := 10) rfl rfl
theorem atI_11 {α : Type} {a0 a1 a2 a3 a4 a5 a6 a7 a8 a9 a10 a11 : α} {l : List α} : atI (a0 :: a1 :: a2 :: a3 :: a4 :: a5 :: a6 :: a7 :: a8 :: a9 :: a10 :: a11 :: l) 11 = some a11 := atI_at (n := 11) rfl rfl
theorem atI_neg1 {α : Type} {l : List α} {n : Nat} {x : α} (e : l.length = n + 1) (h : l[n]? = some x) : atI l (-1) = some x := by
  unfold atI ixN
  rw [if_neg (by decide), e, if_pos (by omega)]
  show l[((-1 : Int) + ((n + 1 : Nat) : Int)).toNat]? = _
  rw [show ((-1 : Int) + ((n + 1 : Nat) : Int)).toNat = n by omega]
  exact h
/-- a loop whose things are known -/
def ForG (ds : List D) (g : GT) (tb : ST) (e : SE) (ρ1 : Ev) : Prop := ∃ P : Nat → Ev → Prop, P 0 ρ1 ∧ (∀ i d ρ, ds[i]? = some d → P i ρ → g d ρ fun ρ2 => tb { e with nx := P (i + 1), ct := P (i + 1), bk := e.nx } ρ2) ∧ (∀ ρ, P ds.length ρ → e.nx ρ)
def ForT (ds : List D) (g : GT) (tb : ST) (e : SE) (ρ1 : Ev) (_ : Tag (g, tb, e)) : Prop := ForG ds g tb e ρ1
theorem sFor_ {ti : IT} {g : GT} {tb : ST} {e : SE} {ρ : Ev} : sFor ti g tb e ρ = ti ρ (fun ds ρ1 => ForT ds g tb e ρ1 .mk) e.xc := rfl
def WhileG (c : BT) (tb : ST) (e : SE) (ρ : Ev) (_ : Tag (c, tb, e)) : Prop := sWhile c tb e ρ
theorem sWhile_ {c : BT} {tb : ST} {e : SE} {ρ : Ev} : sWhile c tb e ρ = WhileG c tb e ρ .mk := rfl
/-- a comprehension whose things are known -/
def LcG (ds : List D) (g : GT) (tt : BT) (te : ET) (vs : List Nat) (q : EK) (ρ1 : Ev) : Prop := (vs.all fun v => (ownS ρ1[v]?).isNone) = true ∧ ∃ P : Nat → List D → Ev → Prop, P 0 [] (wipeE ρ1 vs) ∧
  (∀ i d acc ρ2, ds[i]? = some d → P i acc ρ2 → g d ρ2 fun ρ3 => tt ρ3 (fun b ρ4 => if b = true then te ρ4 (fun r ρ5 => some! (settle ρ5 r) fun z => acc.length < sizeLine ∧ P (i + 1) (acc ++ [z.1]) (wipeE z.2 vs)) xNo else P (i + 1) acc (wipeE ρ4 vs)) xNo) ∧
  (∀ acc ρ2, P ds.length acc ρ2 → q (.n (.lst acc)) (unwipe ρ1 ρ2 vs))
def LcT (ds : List D) (g : GT) (tt : BT) (te : ET) (vs : List Nat) (q : EK) (ρ1 : Ev) (_ : Tag (g, tt, te, vs, q)) : Prop := LcG ds g tt te vs q ρ1
theorem tLc_ {ti : IT} {g : GT} {tt : BT} {te : ET} {vs : List Nat} {q : EK} {x : XQ} {ρ : Ev} : tLc' ti g tt te vs ρ q x = ti ρ (fun ds ρ1 => LcT ds g tt te vs q ρ1 .mk) x := rfl
/-- without tests, each element by itself: the slots ahead -/
theorem LcG.map {ds : List D} {g : GT} {te : ET} {vs : List Nat} {q : EK} {ρ : Ev} {f : Nat → D → D} (no : (vs.all fun v => (ownS ρ[v]?).isNone) = true) (hz : ds.length ≤ sizeLine)
    (h : ∀ i d, ds[i]? = some d → g d (wipeE ρ vs) fun ρ3 => te ρ3 (fun r ρ5 => some! (settle ρ5 r) fun z => z.1 = f i d ∧ wipeE z.2 vs = wipeE ρ vs) xNo)
    (hq : q (.n (.lst (ds.mapIdx f))) (unwipe ρ (wipeE ρ vs) vs)) (gm : ∀ d ρ (p r : Ev → Prop), g d ρ p → (∀ ρ', p ρ' → r ρ') → g d ρ r) (tm : ∀ ρ (p r : EK), te ρ p xNo → (∀ v ρ', p v ρ' → r v ρ') → te ρ r xNo) : LcG ds g bYes te vs q ρ := by
  refine ⟨no, fun i acc ρ2 => acc = (ds.mapIdx f).take i ∧ ρ2 = wipeE ρ vs, ⟨rfl, rfl⟩, fun i d acc ρ2 hd ⟨ea, eρ⟩ => ?_, fun acc ρ2 ⟨ea, eρ⟩ => ?_⟩
  · subst eρ
    have hi : i < ds.length := (List.getElem?_eq_some_iff.mp hd).1
    refine gm d _ _ _ (h i d hd) fun ρ3 h3 => ?_
    show te ρ3 _ xNo
    refine tm _ _ _ h3 fun r ρ5 h5 => ?_
    obtain ⟨z, e1, e2, e3⟩ := some!_ok h5
    rw [e1]
    refine ⟨?_, ?_, e3⟩
    · rw [ea, List.length_take, List.length_mapIdx]
      omega
    · rw [ea, e2, List.take_add_one]
      congr 1
      rw [List.getElem?_mapIdx, hd]
      rfl
  · subst eρ
    rw [List.take_of_length_le (by rw [List.length_mapIdx]; exact Nat.le_refl _)] at ea
    rw [ea]
    exact hq
end DL

set_option Elab.async false
set_option linter.all false
set_option maxRecDepth 100000
set_option maxHeartbeats 4000000
namespace DL
open PySem PySem.Spec PyProof.Rows L2
/-! ### sizes of whole numbers -/
def Bt (n : Nat) (i : Int) : Prop := i.natAbs < 2 ^ n
theorem bt_of {n : Nat} {i : Int} {b : Nat} (h : i.natAbs < b) (e : b ≤ 2 ^ n) : Bt n i := Nat.lt_of_lt_of_le h e
theorem bt_lit {i : Int} (h : i.natAbs < 2 ^ 64) : Bt 64 i := h
theorem Bt.mono {a b : Nat} {i : Int} (h : Bt a i) (e : a ≤ b) : Bt b i := Nat.lt_of_lt_of_le h (Nat.pow_le_pow_right (by decide) e)
theorem Bt.mul {a b : Nat} {i j : Int} (h : Bt a i) (k : Bt b j) : Bt (a + b) (i * j) := by
  unfold Bt at *
  rw [Int.natAbs_mul, Nat.pow_add]
  exact Nat.mul_lt_mul'' h k
theorem Bt.add {a b : Nat} {i j : Int} (h : Bt a i) (k : Bt b j) : Bt (a + b + 1) (i + j) := by
  unfold Bt at *
  have e1 : 2 ^ a ≤ 2 ^ (a + b) := Nat.pow_le_pow_right (by decide) (Nat.le_add_right a b)
  have e2 : 2 ^ b ≤ 2 ^ (a + b) := Nat.pow_le_pow_right (by decide) (Nat.le_add_left b a)
  have e3 : (i + j).natAbs ≤ i.natAbs + j.natAbs := Int.natAbs_add_le i j
  rw [Nat.pow_succ]
  omega
theorem Bt.neg {a : Nat} {i : Int} (h : Bt a i) : Bt a (-i) := by
  unfold Bt at *
  rwa [Int.natAbs_neg]
theorem Bt.sub {a b : Nat} {i j : Int} (h : Bt a i) (k : Bt b j) : Bt (a + b + 1) (i - j) := by
  rw [Int.sub_eq_add_neg]
  exact h.add k.neg
theorem Bt.div {a : Nat} {i j : Int} (h : Bt a i) : Bt (a + 1) (i / j) := by
  have e : (i / j).natAbs ≤ i.natAbs + 1 := by
    by_cases hj : j = 0
    · subst hj
      rw [Int.ediv_zero]
      omega
    · have h1 := Int.emod_nonneg i hj
      have h2 := Int.emod_lt i hj
      have h3 := Int.mul_ediv_add_emod i j
      rcases Nat.lt_or_ge (i / j).natAbs (i.natAbs + 2) with h4 | h4
      · omega
      · exfalso
        have h5 : (j * (i / j)).natAbs = j.natAbs * (i / j).natAbs := Int.natAbs_mul _ _
        have h6 : 1 ≤ j.natAbs := by omega
        obtain ⟨w, hw⟩ : ∃ w, j.natAbs = w + 1 := ⟨j.natAbs - 1, by omega⟩
        have h7 : j.natAbs * (i / j).natAbs = w * (i / j).natAbs + (i / j).natAbs := by rw [hw, Nat.add_mul, Nat.one_mul]
        have h8 : w * 2 ≤ w * (i / j).natAbs := Nat.mul_le_mul_left _ (by omega)
        omega
  unfold Bt at *
  have : 1 ≤ 2 ^ a := Nat.one_le_two_pow
  rw [Nat.pow_succ]
  omega
theorem Bt.mod {b : Nat} {i j : Int} (h : 0 < j) (k : Bt b j) : Bt b (i % j) := by
  unfold Bt at *
  have h1 := Int.emod_nonneg i (by omega : j ≠ 0)
  have h2 := Int.emod_lt_of_pos i h
  omega
theorem bt_bits {n : Nat} {i : Int} (h : Builtin.Int.intBits i ≤ n) : Bt n i := by
  unfold Bt
  unfold Builtin.Int.intBits at h
  by_cases e : i = 0
  · subst e
    exact Nat.two_pow_pos n
  · rw [if_neg (by simpa using e)] at h
    exact Nat.lt_of_lt_of_le (Nat.lt_log2_self) (Nat.pow_le_pow_right (by decide) h)
theorem cmulx {a b : Nat} {i j : Int} (h : Bt a i) (k : Bt b j) (e : a + b ≤ 134217728) : CMulX i j := mulx_ok h k e
theorem cdivw {b : Nat} {i j : Int} (h : 0 < j) (k : Bt b j) (e : b ≤ 9000) : CDivW i j := by
  refine ⟨h, ?_⟩
  have h1 : j.natAbs ≠ 0 := by omega
  exact Nat.lt_of_lt_of_le ((Nat.log2_lt h1).mpr k) e
theorem cdivp {a : Nat} {i j : Int} (h : 0 < j) (k : Bt a i) (e : a ≤ 4000) : CDivP i j := by
  refine divp_ok h (Nat.le_trans (PyProof.Rows.intBits_le k) (by omega))
/-- promises by a function -/
inductive Out where
  | r (v : RV) | x (c : Addr)
def OutG (o : Out) (q : RV → Prop) (x : Addr → Prop) : Prop := match o with
  | .r v => q v
  | .x c => x c
theorem outG_r {v : RV} {q : RV → Prop} {x : Addr → Prop} : OutG (.r v) q x = q v := rfl
theorem outG_x {c : Addr} {q : RV → Prop} {x : Addr → Prop} : OutG (.x c) q x = x c := rfl
def spF (f : List D → Option Out) : PSp := fun ds q x => some! (f ds) fun o => OutG o q x
theorem spF_ {f : List D → Option Out} {ds : List D} {q : RV → Prop} {x : Addr → Prop} : spF f ds q x = some! (f ds) fun o => OutG o q x := rfl
/-- a block cut behind its first statement -/
theorem sSeq_via {A B : ST} {e : SE} {ρ : Ev} (Q : Ev → Prop) (hA : ∀ N : Ev → Prop, (∀ ρ', Q ρ' → N ρ') → A { e with nx := N } ρ) (hB : ∀ ρ', Q ρ' → B e ρ') : sSeq A B e ρ := hA (B e) hB
theorem rngc_get {lo c : Int} {n i : Nat} {d : D} (h : (rngC lo c n)[i]? = some d) : i < n ∧ d = .int (lo + (i : Int) * c) := by
  unfold rngC at h
  rw [List.getElem?_map] at h
  rcases Nat.lt_or_ge i n with g | g
  · rw [List.getElem?_range g] at h
    exact ⟨g, (Option.some.inj h).symm⟩
  · rw [List.getElem?_eq_none (by rw [List.length_range]; exact g)] at h
    cases h
theorem rngc_len {lo c : Int} {n : Nat} : (rngC lo c n).length = n := by
  unfold rngC
  rw [List.length_map, List.length_range]
def isOp : D → Bool
  | .op _ => true
  | _ => false
end DL

set_option Elab.async false
set_option linter.all false
set_option maxRecDepth 100000
set_option maxHeartbeats 4000000
namespace DL
open PySem PySem.Spec PyProof.Rows L2
/-! ### a, b, c = e1, e2, e3 of plain local names -/
theorem store_waits {K : PySem.W.Frag} {p0 : Amb} {M0 M : Addr → Prop} {σ0 σ : L2.St} {H0 H : Hp} {ρ0 ρ ρ' : Ev} {i : Nat} {u : V} {r : RV} (S0 : Sim K p0 M0 σ0 H0 ρ0) (P : Post K p0 M0 σ0 H0 ρ0 M σ H ρ)
    (R : RVok K M σ ρ H0 H u r) (e : store i ρ r = some ρ') :
    ∃ M', Post K p0 M0 σ0 H0 ρ0 M' (σ.set i (some u)) H ρ' ∧ ∀ (H1 : Hp) (v : V) (s : RV), RVok K M σ ρ H1 H v s → (∀ k, s ≠ .o k) → (∀ a, u = .ref a → (∃ x, r = .n x) → H1 a ≠ none) → RVok K M' (σ.set i (some u)) ρ' H1 H v s := by
  have cold : ∀ (R' : RVok K M σ ρ H H u r), ∃ M', Post K p0 M0 σ0 H0 ρ0 M' (σ.set i (some u)) H ρ' ∧ ∀ (H1 : Hp) (v : V) (s : RV), RVok K M σ ρ H1 H v s → (∀ k, s ≠ .o k) → (∀ a, u = .ref a → (∃ x, r = .n x) → H1 a ≠ none) → RVok K M' (σ.set i (some u)) ρ' H1 H v s := fun R' => by
    obtain ⟨M', P'⟩ := store_ok (i := i) P.sim (Post.refl P.sim) R' e
    refine ⟨M', P.trans S0 P', fun H1 v s T nk fr => ?_⟩
    cases s with
    | d x => exact Rep.keep (P'.keep P.sim) T
    | n x =>
      obtain ⟨p, rfl, m, nw, f, o⟩ := T
      exact ⟨p, rfl, P'.step.kp p m nw, fun z => (P'.wr p z).elim nw o.some, f, o.keep (P'.keep P.sim) fun _ z _ => z⟩
    | o k => exact absurd rfl (nk k)
  cases r with
  | d x => exact cold R
  | o k => exact cold R
  | n x =>
    cases e
    obtain ⟨p, rfl, m, nw, f, o⟩ := R
    obtain ⟨S1, w1⟩ := store_ow (i := i) P.sim m nw o (fun z => S0.p0k p z f) (fun _ _ => trivial)
    refine ⟨M, ⟨S1, P.step, fun a h => ?_⟩, fun H1 v s T nk fr => ?_⟩
    · rcases w1 a h with h | h
      · exact P.wr a h
      · exact .inr (h ▸ f)
    · cases s with
      | d x => exact T
      | n y =>
        obtain ⟨p2, rfl, m2, nw2, f2, o2⟩ := T
        refine ⟨p2, rfl, m2, fun z => ?_, f2, o2⟩
        rcases w1 p2 z with h | h
        · exact nw2 h
        · exact fr p rfl ⟨x, rfl⟩ (h ▸ f2)
      | o k => exact absurd rfl (nk k)
def sPar3 (i j l : Nat) (ta tb tc : ET) : ST := fun e ρ => ta ρ (fun r ρ1 => tb ρ1 (fun s ρ2 => tc ρ2 (fun t ρ3 => some! (ripe ρ3 t) fun y => some! (ripe y.2 s) fun z => some! (store i z.2 r) fun ρ4 => some! (store j ρ4 z.1) fun ρ5 => some! (store l ρ5 y.1) e.nx) e.xc) e.xc) e.xc
theorem ripe_n_of {ρ ρ' : Ev} {r s : RV} (e : ripe ρ r = some (s, ρ')) {x : D} (h : s = .n x) : r = .n x := by
  subst h
  cases r with
  | d y => cases e
  | n y => cases e; rfl
  | o i =>
    unfold ripe at e
    simp only at e
    split at e <;> cases e
section
variable {X : Cx} {p : Amb} {W : WX} {a b c : Expr} {ta tb tc : ET} {pos : Pos}
theorem ds_par3 {i j l : Nat} {x y z : Str} {px py pz pt : Pos} {kt k2 pt2} (hc : X.calm = true) (hN : X.N.Nodup) (hi : X.N[i]? = some x) (hj : X.N[j]? = some y) (hl : X.N[l]? = some z) (hij : i ≠ j) (hil : i ≠ l) (hjl : j ≠ l)
    (hx : X.env.scope.names.lookup x = some .local) (hy : X.env.scope.names.lookup y = some .local) (hz : X.env.scope.names.lookup z = some .local) (ha : DE X p W a ta) (hb : DE X p W b tb) (hcc : DE X p W c tc)
    (hw : swappedStores [.Tuple [.Name x px, .Name y py, .Name z pz] kt pt] (.Tuple [a, b, c] k2 pt2) X.env = pure (some [x, y, z]))
    (hsa : starEach [a, b, c] X.env = (false, eval a X.env) :: starEach [b, c] X.env := by rfl) (hsb : starEach [b, c] X.env = (false, eval b X.env) :: starEach [c] X.env := by rfl) (hsc : starEach [c] X.env = (false, eval c X.env) :: starEach [] X.env := by rfl)
    (hs : swapsWithSole [.Tuple [.Name x px, .Name y py, .Name z pz] kt pt] (.Tuple [a, b, c] k2 pt2) pos.line X.env = pure false := by rfl) :
    DS X p W (.Assign [.Tuple [.Name x px, .Name y py, .Name z pz] kt pt] (.Tuple [a, b, c] k2 pt2) pos) (sPar3 i j l ta tb tc) := ⟨PS.imp (ps_par3 hc hN hi hj hl hij hil hjl hx hy hz (pa_cons ha.pe (pa_cons hb.pe (pa_cons hcc.pe pa_nil hsc) hsb) hsa) hw hs) fun D σ H ⟨M, ρ, e, S, h, lk⟩ => by
  refine ⟨M, ρ, _, _, S, h, fun v M1 H1 ρ1 r P1 S1 R1 h1 => ?_, fun c M1 H1 ρ1 P1 h1 => lk.xc c M1 σ H1 ρ1 P1 h1⟩
  refine ⟨M1, ρ1, _, _, P1.sim, h1, fun u M2 H2 ρ2 s P2 S2 R2 h2 => ?_, fun c M2 H2 ρ2 P2 h2 => lk.xc c M2 σ H2 ρ2 (P1.trans S P2) h2⟩
  have P12 := P1.trans S P2
  refine ⟨M2, ρ2, _, _, P2.sim, h2, fun w M3 H3 ρ3 t P3 S3 R3 h3 => ?_, fun c M3 H3 ρ3 P3 h3 => lk.xc c M3 σ H3 ρ3 (P12.trans S P3) h3⟩
  have P13 := P12.trans S P3
  obtain ⟨⟨t', ρ4⟩, e1, h4⟩ := some!_ok h3
  obtain ⟨M4, P4, S4, R4, nk4⟩ := ripe_ok P3.sim R3 e1
  obtain ⟨⟨s', ρ5⟩, e2, h5⟩ := some!_ok h4
  have R2' := (R2.post P2.sim P3 S3).post P3.sim P4 S4
  obtain ⟨M5, P5, S5, R5, nk5⟩ := ripe_ok P4.sim R2' e2
  have R4' : RVok X.K M5 σ ρ5 H2 H3 w t' := R4.post P4.sim P5 S5
  have R1' := (((R1.post P1.sim P2 S2).post P2.sim P3 S3).post P3.sim P4 S4).post P4.sim P5 S5
  have P15 := (P13.trans S P4).trans S P5
  obtain ⟨ρ6, e3, h6⟩ := some!_ok h5
  obtain ⟨M6, P6, W6⟩ := store_waits (i := i) S P15 R1' e3
  have T5 := W6 H1 u s' R5 nk5 (n_there R1)
  have d12 : ∀ a, H1 a ≠ none → H2 a ≠ none := P2.step.dom
  have T4 := W6 H2 w t' R4' nk4 fun a ea hx => d12 a (n_there R1 a ea hx)
  obtain ⟨ρ7, e4, h7⟩ := some!_ok h6
  have T5' : RVok X.K M6 (σ.set i (some v)) ρ6 H H3 u s' := T5.back P1.step.dom
  obtain ⟨M7, P7, W7⟩ := store_waits (i := j) S P6 T5' e4
  have T4' := W7 H2 w t' T4 nk4 fun a ea ⟨x, hx⟩ => n_there R2 a ea ⟨x, ripe_n_of e2 hx⟩
  obtain ⟨ρ8, e5, h8⟩ := some!_ok h7
  have T4'' : RVok X.K M7 ((σ.set i (some v)).set j (some u)) ρ7 H H3 w t' := T4'.back P12.step.dom
  obtain ⟨M8, P8⟩ := store_ok (i := l) S P7 T4'' e5
  exact ⟨v, u, w, rfl, lk.nx M8 _ H3 ρ8 P8 h8⟩⟩
/-! ### a module's name for a built-in function: gcd -/
def fGcd : List D → (RV → Prop) → Prop := fun ds q => match ds with
  | [.int i, .int j] => q (.d (.int ((Nat.gcd i.natAbs j.natAbs : Nat) : Int)))
  | _ => False
theorem gcd_ok {K : PySem.W.Frag} : RCD K rGcd fGcd := by
  intro M H vs ds Q q mok r h k
  unfold fGcd at h
  split at h
  next i j =>
    obtain ⟨v, u, rfl, r1, r2⟩ := r.two
    rw [r1.int, r2.int]
    exact ⟨i, j, rfl, k _ M H _ (ResOk.same mok (.int _)) h⟩
  next => exact h.elim
theorem de_gcd {x : Str} {pos' : Pos} (hm : X.mg x = some (.builtin "math.gcd")) (ha : DE X p W a ta) (hb : DE X p W b tb) (hg : Gl X x := by rfl) (hdb : (x == ("__debug__" : Str)) = false := by decide) (he : starEach [a, b] X.env = (false, eval a X.env) :: starEach [b] X.env := by rfl) (he2 : starEach [b] X.env = (false, eval b X.env) :: starEach [] X.env := by rfl) (hpl : (backTo pos (starEach [b] X.env)).any (·.1) = false := by rfl) :
    DE X p W (.Call (.Name x pos') [a, b] [] pos) (tC' fGcd (aCons ta (aCons tb aNil))) := ⟨PE.imp (pe_callBfun cr_gcd hg hm (da_cons ha (da_cons hb da_nil he2) he).pa hdb he hpl) fun σ H Q h => tC_ok gcd_ok h⟩
/-! ### a global that is a datum for good -/
def GD (K : PySem.W.Frag) (mg : Str → Option Value) (x : Str) (d : D) : Prop := ∃ (u : Value) (v : V), mg x = some u ∧ RelV v u ∧ ∀ M H, Rep K M H v d
theorem de_gd {x : Str} {d : D} (G : GD X.K X.mg x d) (hg : Gl X x := by rfl) (hd : (x == ("__debug__" : Str)) = false := by decide) : DE X p W (.Name x pos) (tK d) := by
  obtain ⟨u, v, hm, r, hr⟩ := G
  exact de_k (pe_glob hg hm r hd) hr
end
/-- a tuple of whole numbers that the top has made -/
theorem gd_ints {K : PySem.W.Frag} {mg : Str → Option Value} {x : Str} {a : Addr} {od : Option Addr} {its : Array Value} {n : Nat} {sl : Array (Option Value)} {ns : List Int} (hm : mg x = some (.ref a)) (l : K.lookup a = some ⟨.type "tuple", od, .seq its n, sl⟩) (h : Vals (ns.map V.int) its.toList) (hz : its.size ≤ 1000) : GD K mg x (.tup (ns.map .int)) :=
  ⟨_, .ref a, hm, rfl, fun M H => .tup (.inr ⟨_, its, n, l, rfl, rfl, sz1000 hz, h⟩) (RepL.of_ints ns)⟩
theorem sPar3_ {i j l : Nat} {ta tb tc : ET} {e : SE} {ρ : Ev} : sPar3 i j l ta tb tc e ρ = ta ρ (fun r ρ1 => tb ρ1 (fun s ρ2 => tc ρ2 (fun t ρ3 => some! (ripe ρ3 t) fun y => some! (ripe y.2 s) fun z => some! (store i z.2 r) fun ρ4 => some! (store j ρ4 z.1) fun ρ5 => some! (store l ρ5 y.1) e.nx) e.xc) e.xc) e.xc := rfl
theorem fGcd_ {i j : Int} {q : RV → Prop} : fGcd [.int i, .int j] q = q (.d (.int ((Nat.gcd i.natAbs j.natAbs : Nat) : Int))) := rfl
theorem ripe_o {ρ : Ev} {i : Nat} : ripe ρ (.o i) = (match settle ρ (.o i) with | some (x, ρ1) => some (.d x, ρ1) | none => none) := rfl
end DL

set_option Elab.async false
set_option linter.all false
set_option maxRecDepth 100000
set_option maxHeartbeats 4000000
namespace DL
open PySem PySem.Spec PyProof.Rows L2
/-! ### in, not in of flat things -/
def flatD : D → Bool
  | .non => true
  | .bl _ => true
  | .int _ => true
  | .str _ => true
  | _ => false
def eqF : D → D → Bool
  | .non, .non => true
  | .bl a, .bl b => a == b
  | .bl a, .int b => (if a then 1 else 0) == b
  | .int a, .bl b => a == (if b then 1 else 0)
  | .int a, .int b => a == b
  | .str a, .str b => a == b
  | _, _ => false
def inF (x : D) (xs : List D) : Bool := xs.any fun y => eqF y x
section
variable {K : PySem.W.Frag} {M : Addr → Prop} {H : Hp}
theorem flat_rep {v : V} {d : D} (r : Rep K M H v d) (h : flatD d = true) : flatV v = true := by
  cases r with
  | op v => cases h
  | tup _ _ => cases h
  | lst _ _ _ => cases h
  | fz _ _ => cases h
  | dic _ _ _ => cases h
  | dit _ _ _ => cases h
  | _ => rfl
theorem flat_repC {v : V} {d : D} (r : RepC K M H v d) (h : flatD d = true) : flatV v = true := by
  rcases r with r | ⟨p, rfl, o⟩
  · exact flat_rep r h
  · cases d with
    | lst _ => cases h
    | dic _ => cases h
    | dit _ => cases h
    | _ => exact o.elim
theorem eqF_rep {v u : V} {d e : D} (r : Rep K M H v d) (s : RepC K M H u e) (h : flatD d = true) (k : flatD e = true) : eqV v u = eqF d e := by
  cases d with
  | non =>
    cases r
    cases e with
    | non => rw [s.non]; rfl
    | bl _ => rw [s.bl]; rfl
    | int _ => rw [s.int]; rfl
    | str _ => rw [s.str]; rfl
    | _ => cases k
  | bl _ =>
    cases r
    cases e with
    | non => rw [s.non]; rfl
    | bl _ => rw [s.bl]; rfl
    | int _ => rw [s.int]; rfl
    | str _ => rw [s.str]; rfl
    | _ => cases k
  | int _ =>
    cases r
    cases e with
    | non => rw [s.non]; rfl
    | bl _ => rw [s.bl]; rfl
    | int _ => rw [s.int]; rfl
    | str _ => rw [s.str]; rfl
    | _ => cases k
  | str _ =>
    cases r
    cases e with
    | non => rw [s.non]; rfl
    | bl _ => rw [s.bl]; rfl
    | int _ => rw [s.int]; rfl
    | str _ => rw [s.str]; rfl
    | _ => cases k
  | _ => cases h
theorem flat_repL : ∀ {vs : List V} {ds : List D}, RepL K M H vs ds → ds.all flatD = true → vs.all flatV = true
  | _, _, .nil, _ => rfl
  | _, _, .cons r t, h => by
    simp only [List.all_cons, Bool.and_eq_true] at h ⊢
    exact ⟨flat_rep r h.1, flat_repL t h.2⟩
theorem inF_rep {u : V} {e : D} (s : RepC K M H u e) (k : flatD e = true) : ∀ {vs : List V} {ds : List D}, RepL K M H vs ds → ds.all flatD = true → inV u vs = inF e ds
  | _, _, .nil, _ => rfl
  | _, _, .cons (v := v) (vs := vs) (d := d) (ds := ds) r t, h => by
    simp only [List.all_cons, Bool.and_eq_true] at h
    show (eqV v u || inV u vs) = (eqF d e || inF e ds)
    rw [eqF_rep r s h.1 k, inF_rep s k t h.2]
end
def fIn (neg : Bool) : D → D → (RV → Prop) → Prop := fun a b q => match b with
  | .lst xs => flatD a = true ∧ xs.all flatD = true ∧ q (.d (.bl (neg ^^ inF a xs)))
  | .tup xs => flatD a = true ∧ xs.all flatD = true ∧ q (.d (.bl (neg ^^ inF a xs)))
  | .fz xs => flatD a = true ∧ xs.all flatD = true ∧ q (.d (.bl (neg ^^ inF a xs)))
  | _ => False
theorem rIn_ok {K : PySem.W.Frag} {neg : Bool} : R2D K (rIn K neg) (fIn neg) := by
  intro M H x y a b Q q mok ra rb h k
  have fin : ∀ (xs : List V) (ds : List D), RepL K M H xs ds → ds.all flatD = true → flatD a = true → q (.d (.bl (neg ^^ inF a ds))) → Q (.bl (if neg then !inV x xs else inV x xs)) H := fun xs ds r hf ha hq => by
    rw [inF_rep ra ha r hf]
    cases neg
    · rw [Bool.false_xor] at hq; exact k _ M H _ (ResOk.same mok (.bl _)) hq
    · rw [Bool.true_xor] at hq; exact k _ M H _ (ResOk.same mok (.bl _)) hq
  cases b with
  | lst ds =>
    obtain ⟨p, xs, e, hx, r⟩ := rb.lst
    exact ⟨p, xs, e, .inl (SqL.of hx), flat_repC ra h.1, flat_repL r h.2.1, fin xs ds r h.2.1 h.1 h.2.2⟩
  | tup ds =>
    obtain ⟨p, xs, e, hx, r⟩ := rb.tup
    exact ⟨p, xs, e, .inr hx.sq, flat_repC ra h.1, flat_repL r h.2.1, fin xs ds r h.2.1 h.1 h.2.2⟩
  | fz ds =>
    obtain ⟨p, xs, e, hx, r⟩ := rb.fz
    exact ⟨p, xs, e, .inl hx.sq, flat_repC ra h.1, flat_repL r h.2.1, fin xs ds r h.2.1 h.1 h.2.2⟩
  | _ => exact h.elim
section
variable {X : Cx} {p : Amb} {W : WX} {a b c e : Expr} {ta tb tc te : ET} {pos : Pos}
theorem de_in {k : Nat} (hr : Room k X.A) (ha : DE X p W a ta) (hb : DE X p W b tb) (hm : behindInMarks .In b = false := by rfl) : DE X p W (.Compare a [.In] [b] pos) (t2 (fIn false) ta tb) := de_cmp op_in_seq rIn_ok ha hb hm
theorem de_notin {k : Nat} (hr : Room k X.A) (ha : DE X p W a ta) (hb : DE X p W b tb) (hm : behindInMarks .NotIn b = false := by rfl) : DE X p W (.Compare a [.NotIn] [b] pos) (t2 (fIn true) ta tb) := de_cmp op_notIn_seq rIn_ok ha hb hm
theorem db_in {k : Nat} (hr : Room k X.A) (ha : DE X p W a ta) (hb : DE X p W b tb) (hm : behindInMarks .In b = false := by rfl) : DB X p W (.Compare a [.In] [b] pos) (tT (t2 (fIn false) ta tb)) := db_cmp op_in_seq rIn_ok ha hb hm
theorem db_notin {k : Nat} (hr : Room k X.A) (ha : DE X p W a ta) (hb : DE X p W b tb) (hm : behindInMarks .NotIn b = false := by rfl) : DB X p W (.Compare a [.NotIn] [b] pos) (tT (t2 (fIn true) ta tb)) := db_cmp op_notIn_seq rIn_ok ha hb hm
end
/-! ### dicts whose keys are whole numbers and texts -/
def keyD : D → Option Key
  | .int i => some (.inl i)
  | .str x => some (.inr x)
  | _ => none
theorem keyD_ok {K : PySem.W.Frag} {M : Addr → Prop} {H : Hp} {v : V} {d : D} {k : Key} (r : RepC K M H v d) (h : keyD d = some k) : v = kV k := by
  cases d with
  | int i => cases h; exact r.int
  | str i => cases h; exact r.str
  | _ => cases h
def valD (kds : List (Key × D)) (k : Key) : Option D := (kds.find? fun kv => decide (kv.1 = k)).map (·.2)
def putD (kds : List (Key × D)) (k : Key) (d : D) : List (Key × D) := if kds.any (fun kv => decide (kv.1 = k)) then kds.map fun kv => if kv.1 = k then (kv.1, d) else kv else kds ++ [(k, d)]
section
variable {K : PySem.W.Frag} {M : Addr → Prop} {H : Hp}
theorem RepK.length : ∀ {vs : List (Key × V)} {ds : List (Key × D)}, RepK K M H vs ds → vs.length = ds.length
  | _, _, .nil => rfl
  | _, _, .cons _ t => by rw [List.length_cons, List.length_cons, RepK.length t]
theorem RepK.val {k : Key} : ∀ {vs : List (Key × V)} {ds : List (Key × D)}, RepK K M H vs ds → (valV vs k = none ∧ valD ds k = none) ∨ ∃ v d, valV vs k = some v ∧ valD ds k = some d ∧ Rep K M H v d
  | _, _, .nil => .inl ⟨rfl, rfl⟩
  | _, _, .cons (k := j) (v := v) (vs := vs) (d := d) (ds := ds) r t => by
    by_cases e : j = k
    · refine .inr ⟨v, d, ?_, ?_, r⟩
      · unfold valV; rw [List.find?_cons, show decide ((j, v).1 = k) = true from decide_eq_true e]; rfl
      · unfold valD; rw [List.find?_cons, show decide ((j, d).1 = k) = true from decide_eq_true e]; rfl
    · have e1 : valV ((j, v) :: vs) k = valV vs k := by unfold valV; rw [List.find?_cons, show decide ((j, v).1 = k) = false from decide_eq_false e]
      have e2 : valD ((j, d) :: ds) k = valD ds k := by unfold valD; rw [List.find?_cons, show decide ((j, d).1 = k) = false from decide_eq_false e]
      rw [e1, e2]
      exact RepK.val t
theorem RepK.any {k : Key} : ∀ {vs : List (Key × V)} {ds : List (Key × D)}, RepK K M H vs ds → (vs.any fun kv => decide (kv.1 = k)) = ds.any fun kv => decide (kv.1 = k)
  | _, _, .nil => rfl
  | _, _, .cons (k := j) r t => by rw [List.any_cons, List.any_cons, RepK.any t]
theorem RepK.repl {k : Key} {v : V} {d : D} (r : Rep K M H v d) : ∀ {vs : List (Key × V)} {ds : List (Key × D)}, RepK K M H vs ds → RepK K M H (vs.map fun kv => if kv.1 = k then (kv.1, v) else kv) (ds.map fun kv => if kv.1 = k then (kv.1, d) else kv)
  | _, _, .nil => .nil
  | _, _, .cons (k := j) (v := u) (d := e) s t => by
    rw [List.map_cons, List.map_cons]
    by_cases z : j = k
    · rw [if_pos (show (j, u).1 = k from z), if_pos (show (j, e).1 = k from z)]
      exact .cons r (RepK.repl r t)
    · rw [if_neg (show ¬ (j, u).1 = k from z), if_neg (show ¬ (j, e).1 = k from z)]
      exact .cons s (RepK.repl r t)
theorem RepK.append : ∀ {v w : List (Key × V)} {d e : List (Key × D)}, RepK K M H v d → RepK K M H w e → RepK K M H (v ++ w) (d ++ e)
  | _, _, _, _, .nil, s => s
  | _, _, _, _, .cons r t, s => .cons r (RepK.append t s)
theorem RepK.put {k : Key} {v : V} {d : D} (r : Rep K M H v d) {vs : List (Key × V)} {ds : List (Key × D)} (h : RepK K M H vs ds) : RepK K M H (putK vs k v) (putD ds k d) := by
  unfold putK putD
  rw [h.any]
  split
  · exact h.repl r
  · exact h.append (.cons r .nil)
end
def fInD (neg : Bool) : D → D → (RV → Prop) → Prop := fun a b q => match b with
  | .dic kvs => some! (keyD a) fun k => q (.d (.bl (neg ^^ (valD kvs k).isSome)))
  | _ => False
def rInD (neg : Bool) : R2 := fun y x H Q => ∃ a o, x = .ref a ∧ DGet H a y o ∧ Q (.bl (neg ^^ o.isSome)) H
theorem op_inD {X : Cx} (hu : X.A.units + 1 < cLine) : OpR X (compareOp .In) (rInD false) := by
  intro pins s σ H x y v u Q I rx ry h
  obtain ⟨a, o, rfl, g, q⟩ := h
  cases (show u = Value.ref a from ry)
  exact d_in hu I g rx fun s' I' => ⟨.bl o.isSome, H, I', rfl, by rw [Bool.false_xor] at q; exact q⟩
theorem op_notinD {X : Cx} (hu : X.A.units + 1 < cLine) : OpR X (compareOp .NotIn) (rInD true) := by
  intro pins s σ H x y v u Q I rx ry h
  obtain ⟨a, o, rfl, g, q⟩ := h
  cases (show u = Value.ref a from ry)
  exact d_notIn hu I g rx fun s' I' => ⟨.bl (!o.isSome), H, I', rfl, by rw [Bool.true_xor] at q; exact q⟩
theorem rInD_ok {K : PySem.W.Frag} {neg : Bool} : R2D K (rInD neg) (fInD neg) := by
  intro M H x y a b Q q mok ra rb h k
  cases b with
  | dic ds =>
    obtain ⟨key, e, h⟩ := some!_ok h
    obtain ⟨p, xs, ey, hx, r⟩ := rb.dic
    obtain rfl := keyD_ok ra e
    refine ⟨p, valV xs key, ey, DGet.k hx, ?_⟩
    rcases r.val (k := key) with ⟨e1, e2⟩ | ⟨v, d, e1, e2, _⟩
    · rw [e1]; rw [e2] at h; exact k _ M H _ (ResOk.same mok (.bl _)) h
    · rw [e1]; rw [e2] at h; exact k _ M H _ (ResOk.same mok (.bl _)) h
  | _ => exact h.elim
def fIxD : D → D → (RV → Prop) → Prop := fun b a q => match b with
  | .dic kvs => some! (keyD a) fun k => some! (valD kvs k) fun d => q (.d d)
  | _ => False
section
variable {X : Cx} {p : Amb} {W : WX} {a b c e : Expr} {ta tb tc te : ET} {pos : Pos}
theorem de_inD {k : Nat} (hr : Room k X.A) (ha : DE X p W a ta) (hb : DE X p W b tb) (hm : behindInMarks .In b = false := by rfl) : DE X p W (.Compare a [.In] [b] pos) (t2 (fInD false) ta tb) := de_cmp (op_inD (hu_of hr)) rInD_ok ha hb hm
theorem de_notinD {k : Nat} (hr : Room k X.A) (ha : DE X p W a ta) (hb : DE X p W b tb) (hm : behindInMarks .NotIn b = false := by rfl) : DE X p W (.Compare a [.NotIn] [b] pos) (t2 (fInD true) ta tb) := de_cmp (op_notinD (hu_of hr)) rInD_ok ha hb hm
theorem db_inD {k : Nat} (hr : Room k X.A) (ha : DE X p W a ta) (hb : DE X p W b tb) (hm : behindInMarks .In b = false := by rfl) : DB X p W (.Compare a [.In] [b] pos) (tT (t2 (fInD false) ta tb)) := db_cmp (op_inD (hu_of hr)) rInD_ok ha hb hm
theorem db_notinD {k : Nat} (hr : Room k X.A) (ha : DE X p W a ta) (hb : DE X p W b tb) (hm : behindInMarks .NotIn b = false := by rfl) : DB X p W (.Compare a [.NotIn] [b] pos) (tT (t2 (fInD true) ta tb)) := db_cmp (op_notinD (hu_of hr)) rInD_ok ha hb hm
/-- d[k] -/
theorem de_ixD {k : Nat} (hr : Room k X.A) (ha : DE X p W a ta) (hb : DE X p W b tb) (hs : NoSl b := by intro _ _; rfl) : DE X p W (.Subscript a b pos) (t2 fIxD ta tb) :=
  ⟨PE.imp (pe_dget (hu_of hr) ha.pe hb.pe hs) fun σ H Q h => t2_ok (r := fun x y H Q => ∃ a v, x = .ref a ∧ DGet H a y (some v) ∧ Q v H) (fun M H x y a b Q q mok ra rb h k => by
    cases a with
    | dic ds =>
      obtain ⟨key, e, h⟩ := some!_ok h
      obtain ⟨d, e2, h⟩ := some!_ok h
      obtain ⟨p, xs, ey, hx, r⟩ := ra.dic
      obtain rfl := keyD_ok rb e
      rcases r.val (k := key) with ⟨_, e3⟩ | ⟨v, d', e1, e3, rv⟩
      · rw [e3] at e2; cases e2
      · rw [e3] at e2
        cases e2
        exact ⟨p, v, ey, by rw [← e1]; exact DGet.k hx, k _ M H _ (ResOk.same mok rv) h⟩
    | _ => exact h.elim) h⟩
/-- {} -/
def tDNew : ET := fun ρ q _ => q (.n (.dic [])) ρ
theorem de_dnew : DE X p W (.Dict [] [] pos) tDNew := ⟨PE.imp pe_dnewK fun σ H Q ⟨M, ρ, q, xq, S, ht, hq, hx⟩ => fun l hl => by
  obtain ⟨P, R⟩ := (ResOk.dic (K := X.K) (xs := []) (ds := []) S.mok hl .nil).fin S (Post.refl S)
  exact hq _ _ _ ρ _ P (Slots.refl ρ) R ht⟩
end
/-- d[k] = .., d the slot's own dict -/
def ownK (ρ : Ev) : RV → Option (Nat × List (Key × D))
  | .o i => match ownS ρ[i]? with
    | some (.dic xs) => some (i, xs)
    | _ => none
  | _ => none
theorem ownK_ok {ρ : Ev} {r : RV} {i : Nat} {xs : List (Key × D)} (h : ownK ρ r = some (i, xs)) : r = .o i ∧ ownS ρ[i]? = some (.dic xs) := by
  cases r with
  | o j =>
    unfold ownK at h
    simp only at h
    split at h
    · rename_i ys e
      cases h
      exact ⟨rfl, e⟩
    · cases h
  | _ => cases h
def keyR (ρ : Ev) (r : RV) : Option Key := (rd ρ r).bind keyD
def gSetD (to ti : ET) : GT := fun d ρ q => to ρ (fun r ρ1 => ti ρ1 (fun s ρ2 => some! (ownK ρ2 r) fun a => some! (keyR ρ2 s) fun k => a.2.length < sizeLine ∧ q (put a.1 (.dic (putD a.2 k d)) ρ2)) fun _ _ => False) fun _ _ => False
section
variable {X : Cx} {p : Amb} {W : WX} {pos : Pos}
theorem dg_setD {k : Nat} (hr : Room k X.A) {o i : Expr} {to ti : ET} (ho : DE X p (fun _ _ _ _ => False) o to) (hi : DE X p (fun _ _ _ _ => False) i ti)
    (ha : ∀ v, assign (.Subscript o i pos) X.env v = (do
      let ov ← holding [v] (eval o X.env)
      let iv ← holding [v, ov] (eval i X.env)
      standAt pos
      holding [v, ov, iv] (setItem ov iv v)
      release [v, ov, iv] []) := by intro _; rfl) : DG X p (.Subscript o i pos) [] (gSetD to ti) :=
  ⟨PG.imp (pg_sub ho.pe hi.pe (set_dict (hu_of hr)) ha) fun v σ H Q ⟨M, ρ, d, q, S, R, h, k⟩ => by
    refine ⟨M, ρ, _, _, S, h, fun vo M1 H1 ρ1 r1 P1 S1 R1 h1 => ?_, fun c M1 H1 ρ1 P1 h1 => h1⟩
    refine ⟨M1, ρ1, _, _, P1.sim, h1, fun vi M2 H2 ρ2 r2 P2 S2 R2 h2 => ?_, fun c M2 H2 ρ2 P2 h2 => h2⟩
    obtain ⟨⟨n, xs⟩, e1, h3⟩ := some!_ok h2
    obtain ⟨rfl, eo⟩ := ownK_ok e1
    obtain ⟨key, e2, hl, h5⟩ := some!_ok h3
    obtain ⟨dk, e3, e4⟩ := Option.bind_eq_some_iff.mp e2
    obtain ⟨a, hs1, m1, ⟨vs0, hv0, r0⟩, w1⟩ := own_at P2.sim eo
    obtain rfl : vo = .ref a := by
      have z := R1.1
      rw [hs1] at z
      cases z
      rfl
    have P12 := P1.trans S P2
    obtain rfl := keyD_ok (rd_ok P2.sim R2 e3) e4
    refine ⟨a, _, rfl, DPut.k hv0 (by rw [r0.length]; exact hl), ?_⟩
    have kk : Keep M2 H2 M2 (upd H2 a (.dK (putK vs0 key v))) := fun b w e n _ => ⟨by rw [upd_cold m1 n]; exact e, n⟩
    have P4 := mut_ok P2.sim eo hs1 (o := .dK (putK vs0 key v)) (y := .dic (putD xs key d)) ⟨_, upd_same, (r0.keep kk).put ((R.keep (P12.keep S)).keep kk)⟩
    exact k _ _ _ _ (P12.trans S P4) ⟨rfl, fun _ _ => rfl⟩ h5⟩
end
/-! ### list(range(n)) -/
def fLRg : D → (RV → Prop) → Prop := fun d q => match d with
  | .int n => -(2 ^ 62) ≤ n ∧ n ≤ 16777216 ∧ q (.n (.lst (rngD 0 n.toNat)))
  | _ => False
theorem repL_rg {K : PySem.W.Frag} {M : Addr → Prop} {H : Hp} {n : Int} : RepL K M H (rgV 0 n) (rngD 0 n.toNat) := by
  unfold rgV rngD
  rw [Int.sub_zero]
  have : ∀ l : List Nat, RepL K M H (l.map fun i : Nat => V.int (0 + (i : Nat))) (l.map fun i : Nat => D.int (0 + (i : Int))) := fun l => by
    induction l with
    | nil => exact .nil
    | cons a l ih => exact .cons (.int _) ih
  exact this _
section
variable {X : Cx} {p : Amb} {W : WX} {a b c e : Expr} {ta tb tc te : ET} {pos pos' : Pos}
theorem de_lrg1 {p1 p2 q1 q2 : Pos} (hc : X.calm = true) (hm : X.mg "list" = none) (hm2 : X.mg "range" = none) (ha : DE X p W a ta) (hg : Gl X "list" := by rfl) (hg2 : Gl X "range" := by rfl)
    (na : starEach [a] X.env = (false, eval a X.env) :: starEach [] X.env := by rfl)
    (nb : starEach [.Call (.Name "range" p2) [a] [] q2] X.env = (false, eval (.Call (.Name "range" p2) [a] [] q2) X.env) :: starEach [] X.env := by rfl) :
    DE X p W (.Call (.Name "list" p1) [.Call (.Name "range" p2) [a] [] q2] [] q1) (t1 fLRg ta) :=
  ⟨PE.imp (pe_listRg hc hg hm (prg_1 hg2 hm2 ha.pe na) nb) fun σ H Q h => t1_ok (r := fun v H Q => ∃ n, v = .int n ∧ RgOk 0 n ∧ ∀ q, H q = none → Q (.ref q) (upd H q (.lst (rgV 0 n)))) (fun M H x d Q q mok ra h k => by
    cases d with
    | int n =>
      obtain ⟨h1, h2, h3⟩ := h
      exact ⟨n, ra.int, ⟨by decide, by decide, h1, by omega, by omega⟩, fun l hl => k _ _ _ _ (ResOk.lst mok hl repL_rg) h3⟩
    | _ => exact h.elim) h⟩
/-! ### xs.index(y) of a list -/
def isLst : Option D → Prop
  | some (.lst _) => True
  | some (.fz _) => True
  | _ => False
def fIndex : D → D → (RV → Prop) → Prop := fun a y q => match a with
  | .lst xs => flatD y = true ∧ xs.all flatD = true ∧ ∃ (j : Nat) (z : D), xs[j]? = some z ∧ eqF z y = true ∧ (∀ (m : Nat) (z' : D), m < j → xs[m]? = some z' → eqF z' y = false) ∧ q (.d (.int (j : Int)))
  | .fz xs => flatD y = true ∧ xs.all flatD = true ∧ ∃ (j : Nat) (z : D), xs[j]? = some z ∧ eqF z y = true ∧ (∀ (m : Nat) (z' : D), m < j → xs[m]? = some z' → eqF z' y = false) ∧ q (.d (.int (j : Int)))
  | _ => False
def tIndex (to te : ET) : ET := fun ρ q x => to ρ (fun r ρ1 => isLst (rd ρ1 r) ∧ te ρ1 (fun s ρ2 => f2 fIndex (rd ρ2 r) (rd ρ2 s) fun z => q z ρ2) x) x
theorem isLst_ty {K : PySem.W.Frag} {M : Addr → Prop} {H : Hp} {v : V} {d : Option D} (h : isLst d) (r : ∀ x, d = some x → RepC K M H v x) : tyV K "list" v H := by
  cases d with
  | none => exact h.elim
  | some d =>
    cases d with
    | lst ds =>
      obtain ⟨a, xs, rfl, hx, _⟩ := (r _ rfl).lst
      exact .inl ⟨rfl, xs, SqL.of hx⟩
    | fz ds =>
      obtain ⟨a, xs, rfl, hx, _⟩ := (r _ rfl).fz
      exact .inl ⟨rfl, xs, hx.sq⟩
    | _ => exact h.elim
theorem index_ok {K : PySem.W.Frag} : R2D K (fun x y H Q => rIndex K x [y] H Q) fIndex := by
  intro M H x y a b Q q mok ra rb h k
  have go : ∀ (p : Addr) (xs : List V) (ds : List D), x = .ref p → SqL K H p xs → RepL K M H xs ds → (flatD b = true ∧ ds.all flatD = true ∧ ∃ (j : Nat) (z : D), ds[j]? = some z ∧ eqF z b = true ∧ (∀ (m : Nat) (z' : D), m < j → ds[m]? = some z' → eqF z' b = false) ∧ q (.d (.int (j : Int)))) → rIndex K x [y] H Q := fun p xs ds ex hs r ⟨fb, fa, j, z, hz, ez, hno, hq⟩ => by
    obtain ⟨u, hu, ru⟩ := r.get hz
    refine ⟨p, xs, y, j, u, ex, rfl, hs, flat_repC rb fb, flat_repL r fa, hu, ?_, fun m z' hm hz' => ?_, k _ M H _ (ResOk.same mok (.int _)) hq⟩
    · rw [eqF_rep ru rb (List.all_eq_true.mp fa z (List.mem_of_getElem? hz)) fb]; exact ez
    · obtain ⟨d', hd', rd'⟩ := r.get' hz'
      rw [eqF_rep rd' rb (List.all_eq_true.mp fa d' (List.mem_of_getElem? hd')) fb]
      exact hno m d' hm hd'
  cases a with
  | lst ds =>
    obtain ⟨p, xs, ex, hx, r⟩ := ra.lst
    exact go p xs ds ex (SqL.of hx) r h
  | fz ds =>
    obtain ⟨p, xs, ex, hx, r⟩ := ra.fz
    exact go p xs ds ex hx.sq r h
  | _ => exact h.elim
theorem de_index {o e : Expr} {to te : ET} {apos cpos : Pos} (ho : DE X p W o to) (ha : DE X p W e te)
    (hbase : attributeBase o "index" X.env (eval o X.env) = eval o X.env := by rfl)
    (hfew : ((backTo cpos (starEach [e] X.env)).all (fun x => !x.1) && (backToKw cpos (keywordEach [] X.env)).all (fun x => x.1.isSome)
      && decide (([e] : List Expr).length + ([] : List Keyword).length + (if ([] : List Keyword).isEmpty then 0 else 1) < 30)) = true := by rfl)
    (hline : (apos.endLine == cpos.line) = true := by rfl) (hs : starEach [e] X.env = (false, eval e X.env) :: starEach [] X.env := by rfl) (hplain : (backTo cpos (starEach [] X.env)).any (·.1) = false := by rfl) :
    DE X p W (.Call (.Attribute o "index" apos) [e] [] cpos) (tIndex to te) :=
  ⟨PE.imp (pe_bm PySem.F.plainAttrs_list PySem.F.slot_list_index PySem.F.type_list_index mt_index ho.pe (pa_cons ha.pe pa_nil hs) hbase hfew hline hs hplain) fun σ H Q ⟨M, ρ, q, xq, S, ht, hq, hx⟩ => by
    refine ⟨M, ρ, _, _, S, ht, fun v M1 H1 ρ1 r1 P1 S1 R1 h1 => ?_, hx⟩
    obtain ⟨hty, h2⟩ := h1
    refine ⟨isLst_ty hty fun x ex => rd_ok P1.sim R1 ex, M1, ρ1, _, _, P1.sim, h2, fun u M2 H2 ρ2 r2 P2 S2 R2 h3 => ?_, fun c M2 H2 ρ2 P2 h3 => hx c M2 H2 ρ2 (P1.trans S P2) h3⟩
    obtain ⟨x, y, e1, e2, h4⟩ := f2_ok h3
    refine index_ok M2 H2 v u x y Q _ P2.sim.mok (rd_ok P2.sim (R1.post P1.sim P2 S2) e1) (rd_ok P2.sim R2 e2) h4 fun w M3 H3 z ok hz => ?_
    obtain ⟨P3, R3⟩ := ok.fin S (P1.trans S P2)
    exact hq w M3 H3 ρ2 z P3 (S1.trans S2) R3 hz⟩
end
/-! ### step by step -/
section
variable {ρ : Ev} {q : EK} {x : XQ} {q1 : RV → Prop} {xs : List D} {ds : List (Key × D)} {d y : D} {n : Nat} {i : Int} {neg : Bool}
theorem tDNew_ : tDNew ρ q x = q (.n (.dic [])) ρ := rfl
theorem gSetD_ {to ti : ET} {qg : Ev → Prop} : gSetD to ti d ρ qg = to ρ (fun r ρ1 => ti ρ1 (fun s ρ2 => some! (ownK ρ2 r) fun a => some! (keyR ρ2 s) fun k => a.2.length < sizeLine ∧ qg (put a.1 (.dic (putD a.2 k d)) ρ2)) fun _ _ => False) fun _ _ => False := rfl
theorem ownK_o : ownK ρ (.o n) = match ownS ρ[n]? with | some (.dic xs) => some (n, xs) | _ => none := rfl
theorem keyR_ {r : RV} : keyR ρ r = (rd ρ r).bind keyD := rfl
theorem keyD_i : keyD (.int i) = some (.inl i) := rfl
theorem keyD_s {z : Str} : keyD (.str z) = some (.inr z) := rfl
theorem fIn_l : fIn neg y (.lst xs) q1 = (flatD y = true ∧ xs.all flatD = true ∧ q1 (.d (.bl (neg ^^ inF y xs)))) := rfl
theorem fIn_t : fIn neg y (.tup xs) q1 = (flatD y = true ∧ xs.all flatD = true ∧ q1 (.d (.bl (neg ^^ inF y xs)))) := rfl
theorem fIn_f : fIn neg y (.fz xs) q1 = (flatD y = true ∧ xs.all flatD = true ∧ q1 (.d (.bl (neg ^^ inF y xs)))) := rfl
theorem fInD_ : fInD neg y (.dic ds) q1 = some! (keyD y) fun k => q1 (.d (.bl (neg ^^ (valD ds k).isSome))) := rfl
theorem fIxD_ : fIxD (.dic ds) y q1 = some! (keyD y) fun k => some! (valD ds k) fun d => q1 (.d d) := rfl
theorem fLRg_ : fLRg (.int i) q1 = (-(2 ^ 62) ≤ i ∧ i ≤ 16777216 ∧ q1 (.n (.lst (rngD 0 i.toNat)))) := rfl
theorem tIndex_ {to te : ET} : tIndex to te ρ q x = to ρ (fun r ρ1 => isLst (rd ρ1 r) ∧ te ρ1 (fun s ρ2 => f2 fIndex (rd ρ2 r) (rd ρ2 s) fun z => q z ρ2) x) x := rfl
theorem isLst_l : isLst (some (.lst xs)) = True := rfl
theorem isLst_f : isLst (some (.fz xs)) = True := rfl
theorem fIndex_l : fIndex (.lst xs) y q1 = (flatD y = true ∧ xs.all flatD = true ∧ ∃ (j : Nat) (z : D), xs[j]? = some z ∧ eqF z y = true ∧ (∀ (m : Nat) (z' : D), m < j → xs[m]? = some z' → eqF z' y = false) ∧ q1 (.d (.int (j : Int)))) := rfl
theorem fSl_l {lo hi : Option Int} : fSl (.lst xs) lo hi q1 = q1 (.n (.lst (cutD xs lo hi))) := rfl
theorem fSl_t {lo hi : Option Int} : fSl (.tup xs) lo hi q1 = q1 (.d (.tup (cutD xs lo hi))) := rfl
theorem flatD_i : flatD (.int i) = true := rfl
theorem flatD_s {z : Str} : flatD (.str z) = true := rfl
theorem all_ints : ∀ (ns : List Int), (ns.map D.int).all flatD = true
  | [] => rfl
  | _ :: ns => by rw [List.map_cons, List.all_cons, all_ints ns]; rfl
/-- xs[:k] -/
theorem cutD_to {k : Nat} : cutD xs none (some (k : Int)) = xs.take k := by
  unfold cutD
  rw [HT.sIx_none, HT.sIx_nat, List.drop_zero, Nat.sub_zero]
  rcases Nat.le_total k xs.length with h | h
  · rw [Nat.min_eq_left h]
  · rw [Nat.min_eq_right h, List.take_of_length_le (Nat.le_refl _), List.take_of_length_le h]
/-- xs[k:] -/
theorem cutD_from {k : Nat} : cutD xs (some (k : Int)) none = xs.drop k := by
  unfold cutD
  rw [HT.sIx_none, HT.sIx_nat]
  rcases Nat.le_total k xs.length with h | h
  · rw [Nat.min_eq_left h, List.take_of_length_le (by rw [List.length_drop]; omega)]
  · rw [Nat.min_eq_right h, List.drop_of_length_le (Nat.le_refl _), List.drop_of_length_le h]
    rw [List.take_nil]
theorem inF_ints {i : Int} : ∀ (ns : List Int), inF (.int i) (ns.map D.int) = decide (i ∈ ns)
  | [] => by simp [inF]
  | a :: ns => by
    have ih := inF_ints (i := i) ns
    show (a == i || inF (.int i) (ns.map D.int)) = _
    rw [ih]
    by_cases e : i = a
    · subst e; simp
    · have : (a == i) = false := by simp; omega
      rw [this, Bool.false_or]
      simp [e]
end
end DL

set_option Elab.async false
set_option linter.all false
set_option maxRecDepth 100000
set_option maxHeartbeats 4000000
namespace DL
open PySem PySem.Spec PyProof.Rows L2
/-! ### texts -/
theorem tx_ext {a b : Str} (h : a.cps.toList = b.cps.toList) : a = b := by
  obtain ⟨x⟩ := a
  obtain ⟨y⟩ := b
  have h : x.toList = y.toList := h
  rw [Array.toList_inj] at h
  rw [h]
theorem tx_len (z : Str) : z.length = z.cps.toList.length := by
  show z.cps.size = _
  simp
/-- z * k -/
def repS (z : Str) (k : Nat) : Str := ⟨(List.replicate k z.cps.toList).flatten.toArray⟩
theorem foldl_reps (z : Array Nat) : ∀ (k : Nat) (acc : Array Nat), (List.replicate k z).foldl (· ++ ·) acc = (acc.toList ++ (List.replicate k z.toList).flatten).toArray
  | 0, acc => by simp
  | k + 1, acc => by
    rw [List.replicate_succ, List.foldl_cons, foldl_reps z k, List.replicate_succ, List.flatten_cons]
    simp
def rMulS : R2 := fun x y H Q => ∃ z k, x = .str z ∧ y = .int k ∧ z.length = 1 ∧ -(2 ^ 63) ≤ k ∧ k ≤ 16777216 ∧ Q (.str (repS z k.toNat)) H
theorem op_mulS {X : Cx} : OpR X (binaryOp .Mult) rMulS := by
  intro pins s σ H x y v u Q I rx ry h
  obtain ⟨z, k, rfl, rfl, hz, h1, h2, q⟩ := h
  obtain ⟨t, rfl⟩ := rx
  obtain ⟨t', rfl⟩ := ry
  have hl : (repS z k.toNat).length ≤ sizeLine := by
    show (repS z k.toNat).cps.size ≤ _
    have e : z.cps.toList.length = 1 := by rw [← tx_len]; exact hz
    rw [show (repS z k.toNat).cps.size = ((List.replicate k.toNat z.cps.toList).flatten).length by simp [repS]]
    rw [List.length_flatten, List.map_replicate, List.sum_replicate_nat, e, sizeLine_eq]
    omega
  refine PySem.P.mul_str (by rw [decide_eq_false (by omega), decide_eq_false (by omega)]; rfl) (fun a b => ?_) (fun a b => ?_) ?_
  · rw [hz]
    have : (1 : Int) ≤ (2 ^ 63 - 1) / k := by
      rw [Int.le_ediv_iff_mul_le (by omega)]
      omega
    omega
  · rw [hz, Nat.one_mul]
    show decide _ = false
    rw [sizeLine_eq]
    exact decide_eq_false (by omega)
  · by_cases hk : k < 1
    · rw [if_pos hk]
      have e : repS z k.toNat = Str.empty := by
        rw [show k.toNat = 0 by omega]
        rfl
      rw [e] at q
      exact ⟨Nat.zero_le _, ⟨.str Str.empty, H, I.tok _, ⟨_, rfl⟩, q⟩⟩
    · rw [if_neg hk]
      by_cases hk1 : (k == 1 || z.length == 0) = true
      · rw [if_pos hk1]
        have : k = 1 := by
          rw [hz] at hk1
          simpa using hk1
        subst this
        have e : repS z (Int.toNat 1) = z := tx_ext (by simp [repS])
        rw [e] at q
        exact ⟨.str z, H, I, ⟨_, rfl⟩, q⟩
      · rw [if_neg hk1, foldl_reps]
        have e : (⟨((#[] : Array Nat).toList ++ (List.replicate k.toNat z.cps.toList).flatten).toArray⟩ : Str) = repS z k.toNat := by
          simp [repS]
        rw [e]
        exact ⟨hl, ⟨.str _, H, I.tok _, ⟨_, rfl⟩, q⟩⟩
def fMulS : D → D → (RV → Prop) → Prop := fun a b q => match a, b with
  | .str z, .int k => z.length = 1 ∧ -(2 ^ 63) ≤ k ∧ k ≤ 16777216 ∧ q (.d (.str (repS z k.toNat)))
  | _, _ => False
theorem rMulS_ok {K : PySem.W.Frag} : R2D K rMulS fMulS := by
  intro M H x y a b Q q mok ra rb h k
  cases a with
  | str z =>
    cases b with
    | int j => exact ⟨z, j, ra.str, rb.int, h.1, h.2.1, h.2.2.1, k _ M H _ (ResOk.same mok (.str _)) h.2.2.2⟩
    | _ => exact h.elim
  | _ => exact h.elim
section
variable {X : Cx} {p : Amb} {W : WX} {a b c e tg : Expr} {ta tb tc te : ET} {pos pos' : Pos}
theorem de_mulS (ha : DE X p W a ta) (hb : DE X p W b tb) : DE X p W (.BinOp a .Mult b pos) (t2 fMulS ta tb) := de_op op_mulS rMulS_ok ha hb
/-- the signs of a text -/
def signs (z : Str) : List D := z.cps.toList.map fun c => .str ⟨#[c]⟩
def iStrD (te : ET) : IT := fun ρ q x => te ρ (fun r ρ1 => some! (settle ρ1 r) fun z => match z.1 with
  | .str s => q (signs s) z.2
  | _ => False) x
theorem it_str {K : PySem.W.Frag} {M : Addr → Prop} {H : Hp} (z : Str) : ItOk K M H (Its z) (signs z) := fun M' H' k mok => by
  have hs : z.cps.size = z.cps.toList.length := by simp
  refine ⟨fun i d hi => ?_, ?_⟩
  · unfold signs at hi
    rw [List.getElem?_map] at hi
    obtain ⟨c, hc, rfl⟩ := Option.map_eq_some_iff.mp hi
    have hl : i < z.cps.toList.length := (List.getElem?_eq_some_iff.mp hc).1
    refine ⟨show i < z.cps.size by omega, fun x H'' y => ?_⟩
    obtain ⟨e, c', hc', ex⟩ := y
    subst e ex
    have : c = c' := by
      rw [← Array.getElem?_toList, hc] at hc'
      exact Option.some.inj hc'
    subst this
    exact ⟨M', Step.refl, mok, .str _⟩
  · show z.cps.size ≤ (signs z).length
    rw [signs, List.length_map]
    omega
theorem di_str (he : DE X p W e te) : DI X p W tg e (iStrD te) := ⟨PI.imp (pi_str he.pe) fun σ H R ⟨M, ρ, q, xq, S, h, hq, hx⟩ => by
  refine ⟨M, ρ, _, _, S, h, fun v M1 H1 ρ1 r P1 S1 R1 h1 => ?_, hx⟩
  obtain ⟨⟨d, ρ2⟩, e1, h2⟩ := some!_ok h1
  obtain ⟨M2, P2, S2, R2⟩ := settleN_ok S P1 R1 e1
  cases R2 with
  | str z => exact ⟨z, rfl, hq _ M2 H1 ρ2 _ P2 (it_str z) h2⟩
  | _ => exact h2.elim⟩
end
/-! methods of texts -/
def isStr : Option D → Prop
  | some (.str _) => True
  | _ => False
theorem isStr_ty {K : PySem.W.Frag} {M : Addr → Prop} {H : Hp} {v : V} {d : Option D} (h : isStr d) (r : ∀ x, d = some x → RepC K M H v x) : tyV K "str" v H := by
  cases d with
  | none => exact h.elim
  | some d =>
    cases d with
    | str z =>
      rw [(r _ rfl).str]
      rfl
    | _ => exact h.elim
def tStrM (f : D → D → (RV → Prop) → Prop) (to te : ET) : ET := fun ρ q x => to ρ (fun r ρ1 => isStr (rd ρ1 r) ∧ te ρ1 (fun s ρ2 => f2 f (rd ρ2 r) (rd ρ2 s) fun z => q z ρ2) x) x
def fEndsW : D → D → (RV → Prop) → Prop := fun a b q => match a, b with
  | .str x, .str y => q (.d (.bl (Txt.endswith x y)))
  | _, _ => False
def fJoin : D → D → (RV → Prop) → Prop := fun a b q => match a, b with
  | .str x, .lst ds => ∃ ys : List Str, ds = ys.map D.str ∧ (ys.map (·.length)).sum + ys.length * x.length ≤ 16777216 ∧ q (.d (.str (Str.join x ys)))
  | _, _ => False
theorem repL_strs {K : PySem.W.Frag} {M : Addr → Prop} {H : Hp} : ∀ {vs : List V} {ys : List Str}, RepL K M H vs (ys.map D.str) → vs = ys.map V.str
  | _, [], .nil => rfl
  | _, y :: ys, .cons r t => by
    cases r
    rw [List.map_cons, repL_strs t]
section
variable {X : Cx} {p : Amb} {W : WX} {o e : Expr} {to te : ET} {apos cpos : Pos} {m : Str} {id : String} {f : D → D → (RV → Prop) → Prop} {r : V → List V → Hp → VK → Prop}
theorem de_strM (slot : Slot "str" m id) (hty : typeOf (.builtin id) = pure (.type "method_descriptor")) (hm : MtR X id r) (hr : R2D X.K (fun x y H Q => r x [y] H Q) f) (ho : DE X p W o to) (ha : DE X p W e te)
    (hbase : attributeBase o m X.env (eval o X.env) = eval o X.env := by rfl)
    (hfew : ((backTo cpos (starEach [e] X.env)).all (fun x => !x.1) && (backToKw cpos (keywordEach [] X.env)).all (fun x => x.1.isSome)
      && decide (([e] : List Expr).length + ([] : List Keyword).length + (if ([] : List Keyword).isEmpty then 0 else 1) < 30)) = true := by rfl)
    (hline : (apos.endLine == cpos.line) = true := by rfl) (hs : starEach [e] X.env = (false, eval e X.env) :: starEach [] X.env := by rfl) (hplain : (backTo cpos (starEach [] X.env)).any (·.1) = false := by rfl) :
    DE X p W (.Call (.Attribute o m apos) [e] [] cpos) (tStrM f to te) :=
  ⟨PE.imp (pe_bm PySem.F.plainAttrs_str slot hty hm ho.pe (pa_cons ha.pe pa_nil hs) hbase hfew hline hs hplain) fun σ H Q ⟨M, ρ, q, xq, S, ht, hq, hx⟩ => by
    refine ⟨M, ρ, _, _, S, ht, fun v M1 H1 ρ1 r1 P1 S1 R1 h1 => ?_, hx⟩
    obtain ⟨hty, h2⟩ := h1
    refine ⟨isStr_ty hty fun x ex => rd_ok P1.sim R1 ex, M1, ρ1, _, _, P1.sim, h2, fun u M2 H2 ρ2 r2 P2 S2 R2 h3 => ?_, fun c M2 H2 ρ2 P2 h3 => hx c M2 H2 ρ2 (P1.trans S P2) h3⟩
    obtain ⟨x, y, e1, e2, h4⟩ := f2_ok h3
    refine hr M2 H2 v u x y Q _ P2.sim.mok (rd_ok P2.sim (R1.post P1.sim P2 S2) e1) (rd_ok P2.sim R2 e2) h4 fun w M3 H3 z ok hz => ?_
    obtain ⟨P3, R3⟩ := ok.fin S (P1.trans S P2)
    exact hq w M3 H3 ρ2 z P3 (S1.trans S2) R3 hz⟩
end
theorem ends_ok {K : PySem.W.Frag} : R2D K (fun x y H Q => ∃ a b, x = .str a ∧ [y] = [V.str b] ∧ Q (.bl (Txt.endswith a b)) H) fEndsW := by
  intro M H x y a b Q q mok ra rb h k
  cases a with
  | str z =>
    cases b with
    | str w => exact ⟨z, w, ra.str, by rw [rb.str], k _ M H _ (ResOk.same mok (.bl _)) h⟩
    | _ => exact h.elim
  | _ => exact h.elim
theorem join_ok {K : PySem.W.Frag} : R2D K (fun x y H Q => ∃ a p, ∃ ys : List Str, x = .str a ∧ [y] = [V.ref p] ∧ (SqL K H p (ys.map V.str) ∨ SqT K H p (ys.map V.str)) ∧ (ys.map (·.length)).sum + ys.length * a.length ≤ 16777216 ∧ Q (.str (Txt.join a ys)) H) fJoin := by
  intro M H x y a b Q q mok ra rb h k
  cases a with
  | str z =>
    cases b with
    | lst ds =>
      obtain ⟨ys, rfl, hz, h⟩ := h
      obtain ⟨p, xs, rfl, hx, r⟩ := rb.lst
      rw [repL_strs r] at hx
      rw [← TL.join_eq] at h
      exact ⟨z, p, ys, ra.str, rfl, .inl (SqL.of hx), hz, k _ M H _ (ResOk.same mok (.str _)) h⟩
    | _ => exact h.elim
  | _ => exact h.elim
section
variable {X : Cx} {p : Amb} {W : WX} {o e : Expr} {to te : ET} {apos cpos : Pos}
theorem de_endswith (ho : DE X p W o to) (ha : DE X p W e te) (hbase : attributeBase o "endswith" X.env (eval o X.env) = eval o X.env := by rfl)
    (hfew : ((backTo cpos (starEach [e] X.env)).all (fun x => !x.1) && (backToKw cpos (keywordEach [] X.env)).all (fun x => x.1.isSome)
      && decide (([e] : List Expr).length + ([] : List Keyword).length + (if ([] : List Keyword).isEmpty then 0 else 1) < 30)) = true := by rfl)
    (hline : (apos.endLine == cpos.line) = true := by rfl) (hs : starEach [e] X.env = (false, eval e X.env) :: starEach [] X.env := by rfl) (hplain : (backTo cpos (starEach [] X.env)).any (·.1) = false := by rfl) :
    DE X p W (.Call (.Attribute o "endswith" apos) [e] [] cpos) (tStrM fEndsW to te) := de_strM PySem.F.slot_str_endswith PySem.F.type_str_endswith mt_endswith ends_ok ho ha hbase hfew hline hs hplain
theorem de_join (ho : DE X p W o to) (ha : DE X p W e te) (hbase : attributeBase o "join" X.env (eval o X.env) = eval o X.env := by rfl)
    (hfew : ((backTo cpos (starEach [e] X.env)).all (fun x => !x.1) && (backToKw cpos (keywordEach [] X.env)).all (fun x => x.1.isSome)
      && decide (([e] : List Expr).length + ([] : List Keyword).length + (if ([] : List Keyword).isEmpty then 0 else 1) < 30)) = true := by rfl)
    (hline : (apos.endLine == cpos.line) = true := by rfl) (hs : starEach [e] X.env = (false, eval e X.env) :: starEach [] X.env := by rfl) (hplain : (backTo cpos (starEach [] X.env)).any (·.1) = false := by rfl) :
    DE X p W (.Call (.Attribute o "join" apos) [e] [] cpos) (tStrM fJoin to te) := de_strM PySem.F.slot_str_join PySem.F.type_str_join mt_join join_ok ho ha hbase hfew hline hs hplain
/-- {x: c}, x a slot, c a whole number -/
def tDisp1 (i : Nat) (c : Int) : ET := fun ρ q _ => match ρ[i]? with
  | some (.va d) => some! (keyD d) fun k => q (.n (.dic [(k, .int c)])) ρ
  | _ => False
theorem de_disp1 (i : Nat) {x : Str} {c : Int} {j : Nat} {p1 p2 pos : Pos} (hN : X.N[i]? = some x := by rfl) (hv : Vis X.env.scope x := by first | exact Or.inl rfl | exact Or.inr (Or.inl rfl) | exact Or.inr (Or.inr rfl)) (hd : (x == ("__debug__" : Str)) = false := by decide)
    (hcd : (x == ("__classdict__" : Str)) = false := by decide) : DE X p W (.Dict [some (.Name x p1)] [.Constant (.int c) j p2] pos) (tDisp1 i c) :=
  ⟨PE.imp (pe_disp (pps_cons (pe_var hN hv hd hcd) pe_int pps_nil) rfl rfl (by simp) (Nat.le_add_left 1 14)) fun σ H Q ⟨M, ρ, q, xq, S, ht, hq, hx⟩ => fun l hl => by
    unfold tDisp1 at ht
    split at ht
    · rename_i d e
      obtain ⟨k, ek, h⟩ := some!_ok ht
      obtain ⟨v, es, rv⟩ := S.va i d e
      obtain rfl : v = kV k := keyD_ok (.inl rv) ek
      refine ⟨_, es, upd_same, [(k, .int c)], rfl, Nat.le_add_left 1 14, ?_⟩
      obtain ⟨P, R⟩ := (ResOk.dic (K := X.K) (xs := [(k, .int c)]) (ds := [(k, .int c)]) S.mok hl (.cons (.int c) .nil)).fin S (Post.refl S)
      have e2 : upd (upd H l (.dK [])) l (.dK (mergeK [] [(k, V.int c)])) = upd H l (.dK [(k, V.int c)]) := by
        funext z
        by_cases hz : z = l
        · rw [hz, upd_same, upd_same]
          rfl
        · rw [upd_ne hz, upd_ne hz, upd_ne hz]
      rw [e2]
      exact hq _ _ _ ρ _ P (Slots.refl ρ) R h
    · exact ht.elim⟩
end
/-! ### step by step -/
section
variable {ρ : Ev} {q : EK} {x : XQ} {q1 : RV → Prop} {xs : List D} {d y : D} {n : Nat} {i : Int} {a b : Str} {qi : List D → Ev → Prop}
theorem fMulS_ : fMulS (.str a) (.int i) q1 = (a.length = 1 ∧ -(2 ^ 63) ≤ i ∧ i ≤ 16777216 ∧ q1 (.d (.str (repS a i.toNat)))) := rfl
theorem iStrD_ {te : ET} : iStrD te ρ qi x = te ρ (fun r ρ1 => some! (settle ρ1 r) fun z => some! (match z.1 with | .str s => some s | _ => none) fun s => qi (signs s) z.2) x := by
  unfold iStrD
  congr 1
  funext r ρ1
  congr 1
  funext z
  obtain ⟨z1, z2⟩ := z
  cases z1 <;> rfl
theorem tStrM_ {f : D → D → (RV → Prop) → Prop} {to te : ET} : tStrM f to te ρ q x = to ρ (fun r ρ1 => isStr (rd ρ1 r) ∧ te ρ1 (fun s ρ2 => f2 f (rd ρ2 r) (rd ρ2 s) fun z => q z ρ2) x) x := rfl
theorem isStr_ : isStr (some (.str a)) = True := rfl
theorem fEndsW_ : fEndsW (.str a) (.str b) q1 = q1 (.d (.bl (Txt.endswith a b))) := rfl
theorem fJoin_ : fJoin (.str a) (.lst xs) q1 = ∃ ys : List Str, xs = ys.map D.str ∧ (ys.map (·.length)).sum + ys.length * a.length ≤ 16777216 ∧ q1 (.d (.str (Str.join a ys))) := rfl
theorem tDisp1_ {j : Nat} {c : Int} : tDisp1 j c ρ q x = some! (match ρ[j]? with | some (.va d) => keyD d | _ => none) fun k => q (.n (.dic [(k, .int c)])) ρ := by
  unfold tDisp1
  split <;> rfl
theorem fNe_s {z y : Str} : fNe (.str z) (.str y) q1 = (shD (.str z) ∧ shD (.str y) ∧ q1 (.d (.bl (!eqD (.str z) (.str y))))) := rfl
theorem fLen_s : fLen [.str a] q1 = (a.length ≤ sizeLine ∧ q1 (.d (.int (a.length : Int)))) := rfl
theorem fAdd_s : fAdd (.str a) (.str b) q1 = (a.length + b.length ≤ sizeLine ∧ q1 (.d (.str (a ++ b)))) := rfl
theorem fIx_s : fIx (.str a) (.int i) q1 = (a.length ≤ sizeLine ∧ some! (atI a.cps.toList i) fun c => q1 (.d (.str ⟨#[c]⟩))) := rfl
theorem fSl_s {lo hi : Option Int} : fSl (.str a) lo hi q1 = (a.length ≤ sizeLine ∧ q1 (.d (.str (cutS a lo hi)))) := rfl
end
end DL

set_option Elab.async false
set_option linter.all false
set_option maxRecDepth 100000
set_option maxHeartbeats 4000000
namespace DL
open PySem PySem.Spec PyProof.Rows L2
/-! ### sum, max, min of a list or a tuple of whole numbers; sorted; xs[::-1] -/
section
variable {prog : Program} {w : World} {A : Around} {E : Value → Shared → Prop} {s : Shared} {l : Addr} {xs : Array (Int × Tok)}
theorem iter_intTup {Q : Value → Shared → Prop} (hl : s.heap.IsTuple l (intItems xs))
    (h : ∀ s₂ : Shared, s₂ = { s with heap := s.heap.push { cls := .type "tuple_iterator", data := .fields #[.ref l, .int 0 0] } } →
      (s₂.heap.IsTupleIter s.heap.objs.size l 0 ∧ s₂.heap.IsTuple l (intItems xs)) → (∀ b ∈ [s.heap.objs.size, l], b < s₂.heap.objs.size) → l ≠ s.heap.objs.size → Q (.ref s.heap.objs.size) s₂) :
    wpAny (model prog w) A (pyIter (.ref l)) Q E s := by
  have hlt : l < s.heap.objs.size := by obtain ⟨_, e, _⟩ := hl; exact Heap.lt_size e
  refine wpAny_pyIter_tuple hl (h _ rfl ⟨⟨_, Heap.get?_push_size _ rfl, rfl, rfl⟩, ?_⟩ (fun b hb => ?_) (Nat.ne_of_lt hlt))
  · obtain ⟨o, e, r⟩ := hl
    exact ⟨o, Heap.get?_push_of_some _ e, r⟩
  · show b < (s.heap.push _).objs.size
    rw [Heap.size_push]
    rcases List.mem_cons.mp hb with rfl | hb
    · exact Nat.lt_succ_self _
    · rcases List.mem_cons.mp hb with rfl | hb
      · exact Nat.lt_succ_of_lt hlt
      · cases hb
theorem kept_tup {h' : Heap} (hk : ∀ b o, b ∉ [s.heap.objs.size] → (s.heap.push { cls := .type "tuple_iterator", data := .fields #[.ref l, .int 0 0] }).get? b = some o → h'.get? b = some o) :
    ∀ b o, s.heap.get? b = some o → h'.get? b = some o := fun b o e => by
  refine hk b o (fun hm => ?_) (Heap.get?_push_of_some _ e)
  rcases List.mem_cons.mp hm with e1 | hm
  · exact absurd (e1 ▸ Heap.lt_size e) (Nat.lt_irrefl _)
  · cases hm
variable {its : List Value} {ns : List Int} {Q : Value → Shared → Prop}
theorem sumT_raw (hh : A.handled = none) (hl : s.heap.IsTuple l its.toArray) (hi : IntsAre its ns)
    (h : ∀ h' tk t', (∀ b o, s.heap.get? b = some o → h'.get? b = some o) → Q (.int ns.sum t') { s with heap := h', toks := tk }) : wpAny (model prog w) A (call (.builtin "sum") [.ref l]) Q E s := by
  obtain ⟨xs, e⟩ := hi.allInts.items
  have hn : numsOf (intItems xs).toList = ns := by rw [← e]; exact hi.numsOf
  rw [nums_intItems] at hn
  rw [e] at hl
  refine call_sum_walkG (iter_intTup hl fun s₂ e st hfp hlI => ?_)
  subst e
  refine ⟨_, _, _, _, _, _, numAt xs, rfl, Walks.tuple (A := A.in1) hh _ l hlI (intItems xs), st, hfp, (fun _ _ => intItems_at), fun h' tk t' hk => ?_⟩
  have := h h' tk t' (kept_tup hk)
  rw [show (intItems xs).size = xs.size by simp [intItems], preSum_eq, List.take_of_length_le (by simp), hn]
  exact this
theorem maxT_raw (hh : A.handled = none) (hl : s.heap.IsTuple l its.toArray) (hi : IntsAre its ns) (hne : 0 < ns.length)
    (h : ∀ h' tk M t', (∀ b o, s.heap.get? b = some o → h'.get? b = some o) → M ∈ ns → (∀ a, a ∈ ns → a ≤ M) → Q (.int M t') { s with heap := h', toks := tk }) : wpAny (model prog w) A (call (.builtin "max") [.ref l]) Q E s := by
  obtain ⟨xs, e⟩ := hi.allInts.items
  have hn : numsOf (intItems xs).toList = ns := by rw [← e]; exact hi.numsOf
  rw [nums_intItems] at hn
  subst hn
  rw [e] at hl
  have hsz : 0 < xs.size := by simpa using hne
  refine call_max_walk (iter_intTup hl fun s₂ e st hfp hlI => ?_)
  subst e
  refine ⟨_, _, _, _, _, _, _, rfl, Walks.tuple (A := A.in1) hh _ l hlI (intItems xs), st, hfp, by simpa [intItems] using hsz, CmpOf.ints_gt (numAt xs) (fun _ _ => intItems_at), fun v h' tk hP hk => ?_⟩
  have hv : (intItems xs)[argBest (fun i j => decide (numAt xs i > numAt xs j)) (xs.size - 1)]? = some v := by simpa [intItems] using hP
  obtain ⟨t, rfl⟩ := intItems_at hv
  obtain ⟨h1, h2⟩ := argBest_gt (numAt xs) (xs.size - 1)
  refine h h' tk _ t (kept_tup hk) ?_ fun a ha => ?_
  · rw [numAt_eq]; exact PySem.getD_mem (by rw [List.length_map, Array.length_toList]; omega)
  · obtain ⟨j, hj, rfl⟩ := mem_getD ha
    rw [List.length_map, Array.length_toList] at hj
    rw [← numAt_eq]; exact h2 j (by omega)
theorem minT_raw (hh : A.handled = none) (hl : s.heap.IsTuple l its.toArray) (hi : IntsAre its ns) (hne : 0 < ns.length)
    (h : ∀ h' tk M t', (∀ b o, s.heap.get? b = some o → h'.get? b = some o) → M ∈ ns → (∀ a, a ∈ ns → M ≤ a) → Q (.int M t') { s with heap := h', toks := tk }) : wpAny (model prog w) A (call (.builtin "min") [.ref l]) Q E s := by
  obtain ⟨xs, e⟩ := hi.allInts.items
  have hn : numsOf (intItems xs).toList = ns := by rw [← e]; exact hi.numsOf
  rw [nums_intItems] at hn
  subst hn
  rw [e] at hl
  have hsz : 0 < xs.size := by simpa using hne
  refine call_min_walk (iter_intTup hl fun s₂ e st hfp hlI => ?_)
  subst e
  refine ⟨_, _, _, _, _, _, _, rfl, Walks.tuple (A := A.in1) hh _ l hlI (intItems xs), st, hfp, by simpa [intItems] using hsz, CmpOf.ints_lt (numAt xs) (fun _ _ => intItems_at), fun v h' tk hP hk => ?_⟩
  have hv : (intItems xs)[argBest (fun i j => decide (numAt xs i < numAt xs j)) (xs.size - 1)]? = some v := by simpa [intItems] using hP
  obtain ⟨t, rfl⟩ := intItems_at hv
  obtain ⟨h1, h2⟩ := argBest_lt (numAt xs) (xs.size - 1)
  refine h h' tk _ t (kept_tup hk) ?_ fun a ha => ?_
  · rw [numAt_eq]; exact PySem.getD_mem (by rw [List.length_map, Array.length_toList]; omega)
  · obtain ⟨j, hj, rfl⟩ := mem_getD ha
    rw [List.length_map, Array.length_toList] at hj
    rw [← numAt_eq]; exact h2 j (by omega)
end
/-- a row of whole numbers -/
def SqI (K : PySem.W.Frag) (H : Hp) (a : Addr) (ns : List Int) : Prop := SqL K H a (ns.map V.int) ∨ SqT K H a (ns.map V.int)
def rSumA (K : PySem.W.Frag) : List V → Hp → VK → Prop := fun vs H Q => ∃ (a : Addr) (ns : List Int), vs = [V.ref a] ∧ SqI K H a ns ∧ Q (.int ns.sum) H
def rMaxA (K : PySem.W.Frag) : List V → Hp → VK → Prop := fun vs H Q => ∃ (a : Addr) (ns : List Int), vs = [V.ref a] ∧ SqI K H a ns ∧ 0 < ns.length ∧ ∀ m, m ∈ ns → (∀ y, y ∈ ns → y ≤ m) → Q (.int m) H
def rMinA (K : PySem.W.Frag) : List V → Hp → VK → Prop := fun vs H Q => ∃ (a : Addr) (ns : List Int), vs = [V.ref a] ∧ SqI K H a ns ∧ 0 < ns.length ∧ ∀ m, m ∈ ns → (∀ y, y ∈ ns → m ≤ y) → Q (.int m) H
section
variable {X : Cx}
theorem cr_sumA (hc : X.calm = true) : CallR X (.builtin "sum") (rSumA X.K) := by
  intro pins s σ H vs us Q I r h
  obtain ⟨a, ns, rfl, hs, q⟩ := h
  rw [Vals.ref1 r]
  rcases hs with hs | hs
  · obtain ⟨its, rv, hl, _⟩ := I.list hs
    exact sum_raw (I.ok.hd hc) hl.isList rv.ints fun h' tk t' hk => ⟨.int _, H, I.kept hk, ⟨_, rfl⟩, q⟩
  · obtain ⟨its, rv, hl, _⟩ := I.tuple hs
    exact sumT_raw (I.ok.hd hc) hl rv.ints fun h' tk t' hk => ⟨.int _, H, I.kept hk, ⟨_, rfl⟩, q⟩
theorem cr_maxA (hc : X.calm = true) : CallR X (.builtin "max") (rMaxA X.K) := by
  intro pins s σ H vs us Q I r h
  obtain ⟨a, ns, rfl, hs, hne, q⟩ := h
  rw [Vals.ref1 r]
  rcases hs with hs | hs
  · obtain ⟨its, rv, hl, _⟩ := I.list hs
    exact max_raw (I.ok.hd hc) hl.isList rv.ints hne fun h' tk m t' hk h1 h2 => ⟨.int _, H, I.kept hk, ⟨_, rfl⟩, q m h1 h2⟩
  · obtain ⟨its, rv, hl, _⟩ := I.tuple hs
    exact maxT_raw (I.ok.hd hc) hl rv.ints hne fun h' tk m t' hk h1 h2 => ⟨.int _, H, I.kept hk, ⟨_, rfl⟩, q m h1 h2⟩
theorem cr_minA (hc : X.calm = true) : CallR X (.builtin "min") (rMinA X.K) := by
  intro pins s σ H vs us Q I r h
  obtain ⟨a, ns, rfl, hs, hne, q⟩ := h
  rw [Vals.ref1 r]
  rcases hs with hs | hs
  · obtain ⟨its, rv, hl, _⟩ := I.list hs
    exact min_raw (I.ok.hd hc) hl.isList rv.ints hne fun h' tk m t' hk h1 h2 => ⟨.int _, H, I.kept hk, ⟨_, rfl⟩, q m h1 h2⟩
  · obtain ⟨its, rv, hl, _⟩ := I.tuple hs
    exact minT_raw (I.ok.hd hc) hl rv.ints hne fun h' tk m t' hk h1 h2 => ⟨.int _, H, I.kept hk, ⟨_, rfl⟩, q m h1 h2⟩
end
/-! over data -/
def rowI : D → Option (List D)
  | .lst ds => some ds
  | .tup ds => some ds
  | .fz ds => some ds
  | _ => none
def fSumA : List D → (RV → Prop) → Prop := fun ds q => match ds with
  | [d] => some! (rowI d) fun xs => ∃ ns : List Int, xs = ns.map D.int ∧ q (.d (.int ns.sum))
  | _ => False
def fMaxA : List D → (RV → Prop) → Prop := fun ds q => match ds with
  | [d] => some! (rowI d) fun xs => ∃ ns : List Int, xs = ns.map D.int ∧ 0 < ns.length ∧ ∀ m, m ∈ ns → (∀ y, y ∈ ns → y ≤ m) → q (.d (.int m))
  | _ => False
def fMinA : List D → (RV → Prop) → Prop := fun ds q => match ds with
  | [d] => some! (rowI d) fun xs => ∃ ns : List Int, xs = ns.map D.int ∧ 0 < ns.length ∧ ∀ m, m ∈ ns → (∀ y, y ∈ ns → m ≤ y) → q (.d (.int m))
  | _ => False
theorem sqI_of {K : PySem.W.Frag} {M : Addr → Prop} {H : Hp} {v : V} {d : D} {ns : List Int} (r : RepC K M H v d) (h : rowI d = some (ns.map D.int)) : ∃ a, v = .ref a ∧ SqI K H a ns := by
  cases d with
  | lst ds =>
    cases h
    obtain ⟨a, xs, rfl, hx, t⟩ := r.lst
    rw [t.ints] at hx
    exact ⟨a, rfl, .inl (SqL.of hx)⟩
  | tup ds =>
    cases h
    obtain ⟨a, xs, rfl, hx, t⟩ := r.tup
    rw [t.ints] at hx
    exact ⟨a, rfl, .inr hx.sq⟩
  | fz ds =>
    cases h
    obtain ⟨a, xs, rfl, hx, t⟩ := r.fz
    rw [t.ints] at hx
    exact ⟨a, rfl, .inl hx.sq⟩
  | _ => cases h
theorem sumA_ok {K : PySem.W.Frag} : RCD K (rSumA K) fSumA := by
  intro M H vs ds Q q mok r h k
  unfold fSumA at h
  split at h
  · obtain ⟨v, rfl, s⟩ := r.one
    obtain ⟨xs, e, ns, rfl, h⟩ := some!_ok h
    obtain ⟨a, rfl, hs⟩ := sqI_of s e
    exact ⟨a, ns, rfl, hs, k _ M H _ (ResOk.same mok (.int _)) h⟩
  · exact h.elim
theorem maxA_ok {K : PySem.W.Frag} : RCD K (rMaxA K) fMaxA := by
  intro M H vs ds Q q mok r h k
  unfold fMaxA at h
  split at h
  · obtain ⟨v, rfl, s⟩ := r.one
    obtain ⟨xs, e, ns, rfl, hn, h⟩ := some!_ok h
    obtain ⟨a, rfl, hs⟩ := sqI_of s e
    exact ⟨a, ns, rfl, hs, hn, fun m h1 h2 => k _ M H _ (ResOk.same mok (.int _)) (h m h1 h2)⟩
  · exact h.elim
theorem minA_ok {K : PySem.W.Frag} : RCD K (rMinA K) fMinA := by
  intro M H vs ds Q q mok r h k
  unfold fMinA at h
  split at h
  · obtain ⟨v, rfl, s⟩ := r.one
    obtain ⟨xs, e, ns, rfl, hn, h⟩ := some!_ok h
    obtain ⟨a, rfl, hs⟩ := sqI_of s e
    exact ⟨a, ns, rfl, hs, hn, fun m h1 h2 => k _ M H _ (ResOk.same mok (.int _)) (h m h1 h2)⟩
  · exact h.elim
/-- sorted, a list of whole numbers -/
def fSorted : List D → (RV → Prop) → Prop := fun ds q => match ds with
  | [.lst xs] => ∃ ns : List Int, xs = ns.map D.int ∧ ∀ ns' : List Int, ns'.Perm ns → ns'.Pairwise (· ≤ ·) → q (.n (.lst (ns'.map .int)))
  | _ => False
theorem sorted_ok {K : PySem.W.Frag} : RCD K (rSortedI K) fSorted := by
  intro M H vs ds Q q mok r h k
  unfold fSorted at h
  split at h
  · obtain ⟨v, rfl, s⟩ := r.one
    obtain ⟨ns, rfl, h⟩ := h
    obtain ⟨a, xs, rfl, hx, t⟩ := s.lst
    rw [t.ints] at hx
    exact ⟨a, ns, rfl, SqL.of hx, fun ns' p h1 h2 hp => k _ _ _ _ (ResOk.lst mok hp (RepL.of_ints _)) (h ns' h1 h2)⟩
  · exact h.elim
section
variable {X : Cx} {p : Amb} {W : WX} {a : Expr} {ta : ET} {pos pos' : Pos}
theorem de_sumA (hc : X.calm = true) (hm : X.mg "sum" = none) (ha : DE X p W a ta) (hg : Gl X "sum" := by rfl) (he : starEach [a] X.env = (false, eval a X.env) :: starEach [] X.env := by rfl) : DE X p W (.Call (.Name "sum" pos') [a] [] pos) (tC' fSumA (aCons ta aNil)) := de_callB (cr_sumA hc) sumA_ok hg hm (by decide +kernel) (da_cons ha da_nil he) (by decide) (by decide) he rfl
theorem de_maxA (hc : X.calm = true) (hm : X.mg "max" = none) (ha : DE X p W a ta) (hg : Gl X "max" := by rfl) (he : starEach [a] X.env = (false, eval a X.env) :: starEach [] X.env := by rfl) : DE X p W (.Call (.Name "max" pos') [a] [] pos) (tC' fMaxA (aCons ta aNil)) := de_callB (cr_maxA hc) maxA_ok hg hm (by decide +kernel) (da_cons ha da_nil he) (by decide) (by decide) he rfl
theorem de_minA (hc : X.calm = true) (hm : X.mg "min" = none) (ha : DE X p W a ta) (hg : Gl X "min" := by rfl) (he : starEach [a] X.env = (false, eval a X.env) :: starEach [] X.env := by rfl) : DE X p W (.Call (.Name "min" pos') [a] [] pos) (tC' fMinA (aCons ta aNil)) := de_callB (cr_minA hc) minA_ok hg hm (by decide +kernel) (da_cons ha da_nil he) (by decide) (by decide) he rfl
theorem de_sorted (hm : X.mg "sorted" = none) (ha : DE X p W a ta) (hg : Gl X "sorted" := by rfl) (he : starEach [a] X.env = (false, eval a X.env) :: starEach [] X.env := by rfl) : DE X p W (.Call (.Name "sorted" pos') [a] [] pos) (tC' fSorted (aCons ta aNil)) := de_callB cr_sortedI sorted_ok hg hm (by decide +kernel) (da_cons ha da_nil he) (by decide) (by decide) he rfl
/-- xs[::-1], a list -/
theorem de_rev1 {k : Nat} {p1 p2 p3 : Pos} (ha : DE X p W a ta) : DE X p W (.Subscript a (.Slice none none (some (.UnaryOp .USub (.Constant (.int 1) k p1) p2)) p3) pos) (t1 fLRev ta) :=
  ⟨PE.imp (pe_revL ha.pe) fun σ H Q h => t1_ok (r := fun v H1 Q => ∃ (a : Addr) (xs : List V), v = .ref a ∧ SqL X.K H1 a xs ∧ ∀ q, H1 q = none → Q (.ref q) (upd H1 q (.lst xs.reverse))) (fun M H x a Q q mok ra h k => by
    cases a with
    | lst ds =>
      obtain ⟨b, xs, e, hx, r⟩ := ra.lst
      exact ⟨b, xs, e, SqL.of hx, fun l hl => k _ _ _ _ (ResOk.lst mok hl r.rev) h⟩
    | _ => exact h.elim) h⟩
end
section
variable {xs : List D} {q : RV → Prop} {d : D}
theorem fSumA_ : fSumA [d] q = some! (rowI d) fun xs => ∃ ns : List Int, xs = ns.map D.int ∧ q (.d (.int ns.sum)) := rfl
theorem fMaxA_ : fMaxA [d] q = some! (rowI d) fun xs => ∃ ns : List Int, xs = ns.map D.int ∧ 0 < ns.length ∧ ∀ m, m ∈ ns → (∀ y, y ∈ ns → y ≤ m) → q (.d (.int m)) := rfl
theorem fMinA_ : fMinA [d] q = some! (rowI d) fun xs => ∃ ns : List Int, xs = ns.map D.int ∧ 0 < ns.length ∧ ∀ m, m ∈ ns → (∀ y, y ∈ ns → m ≤ y) → q (.d (.int m)) := rfl
theorem fSorted_ : fSorted [.lst xs] q = ∃ ns : List Int, xs = ns.map D.int ∧ ∀ ns' : List Int, ns'.Perm ns → ns'.Pairwise (· ≤ ·) → q (.n (.lst (ns'.map .int))) := rfl
theorem rowI_l : rowI (.lst xs) = some xs := rfl
theorem rowI_t : rowI (.tup xs) = some xs := rfl
theorem rowI_f : rowI (.fz xs) = some xs := rfl
end
end DL

set_option Elab.async false
set_option linter.all false
set_option maxRecDepth 100000
set_option maxHeartbeats 4000000
namespace DL
open PySem PySem.Spec PyProof.Rows L2
section
variable {prog : Program} {w : World} {A : Around} {E : Value → Shared → Prop} {s : Shared}
theorem collect_tup {l : Addr} {vs : List Value} {Q : List Value → Shared → Prop} (hl : s.heap.IsTuple l vs.toArray)
    (h : Q vs { s with heap := (s.heap.push (seqObj "list" #[] 0)).update s.heap.objs.size (Obj.mapSeq (· ++ vs.toArray)) }) (hsz : vs.length ≤ sizeLine) :
    wpAny (model prog w) A (collect (.ref l)) Q E s := by
  obtain ⟨o, ho, hc, n, hd⟩ := id hl
  unfold collect
  refine wpAny_bind (wpAny_runValue (codeAny_builtin entry_proto_collect' ?_))
  show wpAny _ _ (do again (.builtin "list.__iadd__" ⟨[← newList [], .ref l], []⟩)) _ _ s
  refine wpAny_bind (wpAny_newList (wpAny_pure ⟨Code.quiet_builtin _ (by decide +kernel), codeAny_builtin entry_list_iadd' ?_⟩))
  show wpAny _ _ (Builtin.List.listExtendWith (.ref s.heap.objs.size) (.ref l) (.ref s.heap.objs.size)) _ _ { s with heap := s.heap.push (seqObj "list" #[] 0) }
  unfold Builtin.List.listExtendWith
  have ho' : (s.heap.push (seqObj "list" #[] 0)).get? l = some o := Heap.get?_push_of_some _ ho
  refine wpAny_bind (wpAny_typeOf (T := "tuple") ⟨o, ho', hc⟩ ?_)
  rw [if_pos (by rw [show (Value.type "tuple" == Value.type "tuple") = true from rfl]; simp)]
  refine wpAny_bind (listItems_at ho' hd ?_)
  refine wpAny_bind (listItems_at (xs := #[]) (n := 0) (Heap.get?_push_size _ rfl) rfl ?_)
  rw [if_neg (by simp)]
  refine wpAny_bind (listUpdate_at (xs := #[]) (n := 0) (Heap.get?_push_size _ rfl) rfl ?_ (Nat.zero_le _) (by show (#[] ++ vs.toArray).size ≤ sizeLine + 1; simp only [Array.size_append, List.size_toArray, List.length_nil]; omega))
  refine wpAny_pure ?_
  show wpAny (model prog w) A (do
      let o ← load s.heap.objs.size
      match o.data with
      | .seq xs _ => pure xs.toList
      | _ => unsupported "internal:collect") Q E { s with heap := (s.heap.push (seqObj "list" #[] 0)).update s.heap.objs.size (Obj.mapSeq (· ++ vs.toArray)) }
  refine wpAny_bind (wpAny_load (get?_update_seq (Heap.get?_push_size _ rfl) _) ?_)
  show wpAny _ _ (pure ((#[] : Array Value) ++ vs.toArray).toList) Q E _
  rw [show ((#[] : Array Value) ++ vs.toArray).toList = vs by simp]
  exact wpAny_pure h
theorem sortedT_ints {l : Addr} {vs : List Value} {ns : List Int} {Q : Value → Shared → Prop} (hl : s.heap.IsTuple l vs.toArray) (hi : IntsAre vs ns) (hz : vs.length ≤ sizeLine)
    (h : ∀ (out : List Value) (ns' : List Int), IntsAre out ns' → ns'.Perm ns → ns'.Pairwise (· ≤ ·) → Q (.ref (s.heap.objs.size + 1)) { s with heap := sortedAll s.heap vs out.toArray }) :
    wpAny (model prog w) A (call (.builtin "sorted") [.ref l]) Q E s := by
  refine Calls.call_function_entry kind_sorted plain_sorted entry_sorted (args_sorted1 _) ?_
  unfold Builtin.«sorted»
  refine wpAny_bind (m := checkCount "sorted" 1 1 _) (wpAny_pure ?_)
  refine wpAny_bind (collect_tup hl ?_ hz)
  refine wpAny_bind (wpAny_newList ?_ hz)
  have hsz : ((s.heap.push (seqObj "list" #[] 0)).update s.heap.objs.size (Obj.mapSeq (· ++ vs.toArray))).objs.size = s.heap.objs.size + 1 := by
    rw [Heap.size_update, size_push']
  have hoL : (((s.heap.push (seqObj "list" #[] 0)).update s.heap.objs.size (Obj.mapSeq (· ++ vs.toArray))).push (seqObj "list" vs.toArray 0)).get? (s.heap.objs.size + 1) = some (seqObj "list" vs.toArray 0) := by
    rw [← hsz]; exact Heap.get?_push_size _ rfl
  show wpAny _ _ _ _ _ { s with heap := ((s.heap.push (seqObj "list" #[] 0)).update s.heap.objs.size (Obj.mapSeq (· ++ vs.toArray))).push (seqObj "list" vs.toArray 0) }
  rw [hsz]
  refine wpAny_bind (wpAny_holding (wpAny_call_entry slot_list_sort ⟨_, hoL, rfl⟩ entry_list_sort (SrtO.list_sort_ord SrtO.swo_int hoL hz (fun h2 => SrtO.ints_sortable hi h2) fun out hs hb => ⟨_, rfl, ?_⟩) (args_list_sort _)))
  obtain ⟨k1, k2, k3⟩ := SrtO.ints_out hi hs hb
  exact wpAny_pure ⟨_, rfl, h out _ k1 k2 k3⟩
end
/-- sorted, a list or a tuple of whole numbers -/
def rSortedA (K : PySem.W.Frag) : List V → Hp → VK → Prop := fun vs H Q => ∃ (a : Addr) (ns : List Int), vs = [V.ref a] ∧ SqT K H a (ns.map V.int) ∧
  ∀ (ns' : List Int) (p : Addr), ns'.Perm ns → ns'.Pairwise (· ≤ ·) → H p = none → Q (.ref p) (upd H p (.lst (ns'.map V.int)))
theorem cr_sortedT {X : Cx} : CallR X (.builtin "sorted") (rSortedA X.K) := by
  intro pins s σ H vs us Q I r h
  obtain ⟨a, ns, rfl, hs, q⟩ := h
  obtain ⟨its, rv, hl, hz⟩ := I.tuple hs
  rw [Vals.ref1 r]
  have hz2 : its.length ≤ sizeLine := by rw [← rv.length]; exact hz
  refine sortedT_ints hl rv.ints hz2 fun out ns' k1 k2 k3 => ?_
  obtain ⟨ep, he'⟩ := PyProof.Rows.sortedAll_at s.heap its out.toArray
  have hlen : (ns'.map V.int).length ≤ sizeLine := by
    rw [List.length_map, k2.length_eq]
    rw [List.length_map] at hz
    exact hz
  exact ⟨.ref _, upd H (s.heap.objs.size + 1) (.lst (ns'.map V.int)), I.laid (t' := s.toks) (fun _ _ => PyProof.Rows.sortedAll_old) (Nat.le_succ _) ⟨hlen, out, ep, vals_of_ints k1, he'⟩, rfl, q _ _ k2 k3 (I.hok.fresh (Nat.le_succ _))⟩
def fSortedT : List D → (RV → Prop) → Prop := fun ds q => match ds with
  | [.tup xs] => ∃ ns : List Int, xs = ns.map D.int ∧ ∀ ns' : List Int, ns'.Perm ns → ns'.Pairwise (· ≤ ·) → q (.n (.lst (ns'.map .int)))
  | _ => False
theorem sortedT_ok {K : PySem.W.Frag} : RCD K (rSortedA K) fSortedT := by
  intro M H vs ds Q q mok r h k
  unfold fSortedT at h
  split at h
  · obtain ⟨v, rfl, s⟩ := r.one
    obtain ⟨ns, rfl, h⟩ := h
    obtain ⟨a, xs, rfl, hx, t⟩ := s.tup
    rw [t.ints] at hx
    exact ⟨a, ns, rfl, hx.sq, fun ns' p h1 h2 hp => k _ _ _ _ (ResOk.lst mok hp (RepL.of_ints _)) (h ns' h1 h2)⟩
  · exact h.elim
/-- enumerate of a list -/
def enumD (ds : List D) : List D := ds.zipIdx.map fun p => .tup [.int (p.2 : Nat), p.1]
theorem enumD_get {ds : List D} {i : Nat} {d : D} (h : (enumD ds)[i]? = some d) : ∃ x, ds[i]? = some x ∧ d = .tup [.int (i : Nat), x] := by
  unfold enumD at h
  rw [List.getElem?_map, List.getElem?_zipIdx] at h
  cases e : ds[i]? with
  | none => rw [e] at h; cases h
  | some x =>
    rw [e] at h
    cases h
    exact ⟨x, rfl, by rw [Nat.zero_add]⟩
theorem enumD_len (ds : List D) : (enumD ds).length = ds.length := by simp [enumD]
def iEnumD (te : ET) : IT := fun ρ q x => te ρ (fun r ρ1 => some! (settle ρ1 r) fun z => match z.1 with
  | .lst ds => q (enumD ds) z.2
  | _ => False) x
theorem it_enum {K : PySem.W.Frag} {M : Addr → Prop} {H : Hp} {a : Addr} {vs : List V} {ds : List D} (ho : H a = some (.lst vs)) (n : ¬ M a) (r : RepL K M H vs ds) : ItOk K M H (Ite K a) (enumD ds) := fun M' H' k mok => by
  have h1 : SqL K H' a vs := SqL.of (k a _ ho n (fun _ z => nomatch z)).1
  refine ⟨fun i d hi => ?_, vs, h1, by rw [enumD_len, r.length]; exact Nat.le_refl _⟩
  obtain ⟨x, hx, rfl⟩ := enumD_get hi
  obtain ⟨u, eu, ru⟩ := r.get hx
  refine ⟨⟨vs, u, h1, eu⟩, fun v H'' y => ?_⟩
  obtain ⟨T, x', rfl, hT, rfl, f⟩ := y
  have eq : x' = u := Option.some.inj ((f vs h1).symm.trans eu)
  subst eq
  have ok := ResOk.tup (K := K) (xs := [.int (i : Nat), x']) (ds := [.int (i : Nat), x]) mok hT (.cons (.int _) (.cons (ru.keep k) .nil))
  exact ⟨M', ok.step, ok.mok, ok.res⟩
section
variable {X : Cx} {p : Amb} {W : WX} {a : Expr} {ta : ET} {pos pos' tpos : Pos} {elts : List Expr} {kk : Nat}
theorem de_sortedT (hm : X.mg "sorted" = none) (ha : DE X p W a ta) (hg : Gl X "sorted" := by rfl) (he : starEach [a] X.env = (false, eval a X.env) :: starEach [] X.env := by rfl) : DE X p W (.Call (.Name "sorted" pos') [a] [] pos) (tC' fSortedT (aCons ta aNil)) := de_callB cr_sortedT sortedT_ok hg hm (by decide +kernel) (da_cons ha da_nil he) (by decide) (by decide) he rfl
theorem di_enum (hm : X.mg "enumerate" = none) (ha : DE X p W a ta) (hg : Gl X "enumerate" := by rfl) (hs : starEach [a] X.env = [(false, eval a X.env)] := by rfl) (hs2 : starEach [a] X.env = (false, eval a X.env) :: starEach [] X.env := by rfl) : DI X p W (.Tuple elts kk tpos) (.Call (.Name "enumerate" pos') [a] [] pos) (iEnumD ta) :=
  ⟨PI.imp (pi_enum hg hm (pa_cons ha.pe pa_nil hs2) hs) fun σ H R ⟨M, ρ, q, xq, S, h, hq, hx⟩ => by
    refine ⟨M, ρ, _, _, S, h, fun v M1 H1 ρ1 r P1 S1 R1 h1 => ?_, hx⟩
    obtain ⟨⟨d, ρ2⟩, e1, h2⟩ := some!_ok h1
    obtain ⟨M2, P2, S2, R2⟩ := settleN_ok S P1 R1 e1
    cases d with
    | lst ds =>
      cases R2 with
      | @lst a vs _ ho n r => exact ⟨a, vs, rfl, SqL.of ho, hq _ M2 H1 ρ2 _ P2 (it_enum ho n r) h2⟩
    | _ => exact h2.elim⟩
end
section
variable {ρ : Ev} {x : XQ} {xs : List D} {q : RV → Prop} {qi : List D → Ev → Prop} {te : ET}
theorem fSortedT_ : fSortedT [.tup xs] q = ∃ ns : List Int, xs = ns.map D.int ∧ ∀ ns' : List Int, ns'.Perm ns → ns'.Pairwise (· ≤ ·) → q (.n (.lst (ns'.map .int))) := rfl
theorem iEnumD_ : iEnumD te ρ qi x = te ρ (fun r ρ1 => some! (settle ρ1 r) fun z => some! (match z.1 with | .lst ds => some ds | _ => none) fun ds => qi (enumD ds) z.2) x := by
  unfold iEnumD
  congr 1
  funext r ρ1
  congr 1
  funext z
  obtain ⟨z1, z2⟩ := z
  cases z1 <;> rfl
end
/-! list(range(a, b, c)) -/
def tLRg3V (ta : TA) : TE := fun σ H Q => ta σ H fun vs H1 => ∃ (i j c : Int) (n : Nat), vs = [.int i, .int j, .int c] ∧ RgC i j c n ∧ n ≤ 2 ^ 24 ∧ ∀ q, H1 q = none → Q (.ref q) (upd H1 q (.lst ((List.range n).map fun k : Nat => V.int (i + (k : Int) * c))))
theorem pe_lrg3 {X : Cx} {a b c : Expr} {ta : TA} {p1 p2 q1 q2 : Pos} (hc : X.calm = true) (hg : Gl X "list") (hm : X.mg "list" = none) (hg2 : Gl X "range") (hm2 : X.mg "range" = none) (ha : PA X [a, b, c] ta)
    (hs : starEach [a, b, c] X.env = (false, eval a X.env) :: starEach [b, c] X.env) (hpl : (backTo q2 (starEach [b, c] X.env)).any (·.1) = false)
    (na : starEach [.Call (.Name "range" p2) [a, b, c] [] q2] X.env = (false, eval (.Call (.Name "range" p2) [a, b, c] [] q2) X.env) :: starEach [] X.env) :
    PE X (.Call (.Name "list" p1) [.Call (.Name "range" p2) [a, b, c] [] q2] [] q1) (tLRg3V ta) := by
  refine ⟨fun pins s σ H Q I h => ?_⟩
  refine Call_ (ld_blt I hg hm boot_list (PyProof.Rows.callWith_type1 (args_cons ?_ na) na))
  refine Call_ (ld_blt I hg2 hm2 boot_range (PyProof.Rows.callWith_type1 (thn (ha.run q2 pins s σ H _ I h) fun us s1 ⟨vs, H1, I1, r1, q1⟩ => ?_) hs hpl))
  obtain ⟨i, j, k, n, e, ⟨c0, c1, c2, c3⟩, hn, q⟩ := q1
  subst e
  cases r1 with
  | cons r rr =>
    cases rr with
    | cons r' rr =>
      cases rr with
      | cons r'' rr =>
        cases rr
        obtain ⟨t, rfl⟩ := r
        obtain ⟨t', rfl⟩ := r'
        obtain ⟨t'', rfl⟩ := r''
        refine call_range_3 c0 ?_ (.inl (PyProof.noPylong_small c1))
        have I2 : Inv X pins σ H1 { s1 with heap := s1.heap.push { cls := .type "range", data := .fields #[.int i t, .int j t', .int k t''] } } := I1.kept (t' := s1.toks) fun b o e => Heap.get?_push_of_some _ e
        refine args_nil ?_
        refine call_list_range (n := n) (I2.ok.hd hc) (IsRange.new ..) c2 c3 hn fun h' tk acc c' hk e' hi => ?_
        have hacc : acc.toList.length = n := by rw [Array.length_toList]; exact hi.1
        have hv : Vals ((List.range n).map fun m : Nat => V.int (i + (m : Int) * k)) acc.toList := by
          rw [← hacc]
          refine vals_of_get acc.toList _ fun m u hm => ?_
          obtain ⟨t, rfl⟩ := hi.2 m u (by rw [← hm, Array.getElem?_toList])
          exact ⟨t, rfl⟩
        refine ⟨.ref _, _, I2.laid hk (Nat.le_refl _) (show ObjOk X.prog X.w _ _ _ (.lst ((List.range n).map fun m : Nat => V.int (i + (m : Int) * k))) from ⟨?_, acc.toList, c', hv, ?_⟩), rfl, q _ (I2.hok.fresh (Nat.le_refl _))⟩
        · rw [List.length_map, List.length_range, sizeLine_eq]; omega
        · rw [Array.toArray_toList]; exact e'
def tLRg3 (ta : AT) : ET := fun ρ q x => ta ρ (fun rs ρ1 => match rs with
  | [.d (.int i), .d (.int j), .d (.int c)] => ∃ n, RgC i j c n ∧ n ≤ 2 ^ 24 ∧ q (.n (.lst (rngC i c n))) ρ1
  | _ => False) x
theorem de_lrg3 {X : Cx} {p : Amb} {W : WX} {a b c : Expr} {ta : AT} {p1 p2 q1 q2 : Pos} (hc : X.calm = true) (hm : X.mg "list" = none) (hm2 : X.mg "range" = none) (ha : DA X p W [a, b, c] ta) (hg : Gl X "list" := by rfl) (hg2 : Gl X "range" := by rfl)
    (hs : starEach [a, b, c] X.env = (false, eval a X.env) :: starEach [b, c] X.env := by rfl) (hpl : (backTo q2 (starEach [b, c] X.env)).any (·.1) = false := by rfl)
    (na : starEach [.Call (.Name "range" p2) [a, b, c] [] q2] X.env = (false, eval (.Call (.Name "range" p2) [a, b, c] [] q2) X.env) :: starEach [] X.env := by rfl) :
    DE X p W (.Call (.Name "list" p1) [.Call (.Name "range" p2) [a, b, c] [] q2] [] q1) (tLRg3 ta) :=
  ⟨PE.imp (pe_lrg3 hc hg hm hg2 hm2 ha.pa hs hpl na) fun σ H Q ⟨M, ρ, q, xq, S, ht, hq, hx⟩ => by
    refine ⟨M, ρ, _, _, S, ht, fun vs M1 H1 ρ1 rs P1 S1 R1 h1 => ?_, hx⟩
    split at h1
    · rename_i i j c
      obtain ⟨n, hn, hz, h2⟩ := h1
      refine ⟨i, j, c, n, rvInt3 R1, hn, hz, fun l hl => ?_⟩
      have rep : RepL X.K M1 H1 ((List.range n).map fun m : Nat => V.int (i + (m : Int) * c)) (rngC i c n) := by
        unfold rngC
        have : ∀ l : List Nat, RepL X.K M1 H1 (l.map fun m : Nat => V.int (i + (m : Int) * c)) (l.map fun m : Nat => D.int (i + (m : Int) * c)) := fun l => by
          induction l with
          | nil => exact .nil
          | cons a l ih => exact .cons (.int _) ih
        exact this _
      obtain ⟨P2, R2⟩ := (ResOk.lst P1.sim.mok hl rep).fin S P1
      exact hq _ _ _ ρ1 _ P2 trivial R2 h2
    · exact h1.elim⟩
theorem tLRg3_ {ta : AT} {ρ : Ev} {q : EK} {x : XQ} : tLRg3 ta ρ q x = ta ρ (fun rs ρ1 => some! (match rs with | [.d (.int i), .d (.int j), .d (.int c)] => some (i, j, c) | _ => none) fun z => ∃ n, RgC z.1 z.2.1 z.2.2 n ∧ n ≤ 2 ^ 24 ∧ q (.n (.lst (rngC z.1 z.2.2 n))) ρ1) x := by
  unfold tLRg3
  congr 1
  funext rs ρ1
  split <;> rfl
end DL

set_option Elab.async false
set_option linter.all false
set_option maxRecDepth 100000
set_option maxHeartbeats 4000000
namespace DL
open PySem PySem.Spec PyProof.Rows L2
/-! a, b, c, d = ta, tb, tc, td -/
def sPar4 (i j l m : Nat) (ta tb tc td : ET) : ST := fun e ρ => ta ρ (fun r1 ρ1 => tb ρ1 (fun r2 ρ2 => tc ρ2 (fun r3 ρ3 => td ρ3 (fun r4 ρ4 => some! (ripe ρ4 r4) fun y4 => some! (ripe y4.2 r3) fun y3 => some! (ripe y3.2 r2) fun y2 =>
  some! (store i y2.2 r1) fun ρ5 => some! (store j ρ5 y2.1) fun ρ6 => some! (store l ρ6 y3.1) fun ρ7 => some! (store m ρ7 y4.1) e.nx) e.xc) e.xc) e.xc) e.xc
section
variable {X : Cx} {p : Amb} {W : WX} {a b c d : Expr} {ta tb tc td : ET} {pos : Pos}
theorem ds_par4 {i j l m : Nat} {x y z u : Str} {px py pz pu pt : Pos} {kt k2 pt2} (hc : X.calm = true) (hN : X.N.Nodup) (hi : X.N[i]? = some x) (hj : X.N[j]? = some y) (hl : X.N[l]? = some z) (hm : X.N[m]? = some u)
    (hx : Loc X.env.scope x) (hy : Loc X.env.scope y) (hz : Loc X.env.scope z) (hu : Loc X.env.scope u) (ha : DE X p W a ta) (hb : DE X p W b tb) (hcc : DE X p W c tc) (hd : DE X p W d td)
    (hsa : starEach [a, b, c, d] X.env = (false, eval a X.env) :: starEach [b, c, d] X.env := by rfl) (hsb : starEach [b, c, d] X.env = (false, eval b X.env) :: starEach [c, d] X.env := by rfl) (hsc : starEach [c, d] X.env = (false, eval c X.env) :: starEach [d] X.env := by rfl) (hsd : starEach [d] X.env = (false, eval d X.env) :: starEach [] X.env := by rfl)
    (hs : swapsWithSole [.Tuple [.Name x px, .Name y py, .Name z pz, .Name u pu] kt pt] (.Tuple [a, b, c, d] k2 pt2) pos.line X.env = pure false := by rfl) (hw : swappedStores [.Tuple [.Name x px, .Name y py, .Name z pz, .Name u pu] kt pt] (.Tuple [a, b, c, d] k2 pt2) X.env = pure none := by rfl)
    (fx : X.fn x = true ∨ X.env.scope.names.lookup x = some .local := by first | exact .inl rfl | exact .inr rfl) (fy : X.fn y = true ∨ X.env.scope.names.lookup y = some .local := by first | exact .inl rfl | exact .inr rfl) (fz : X.fn z = true ∨ X.env.scope.names.lookup z = some .local := by first | exact .inl rfl | exact .inr rfl) (fu : X.fn u = true ∨ X.env.scope.names.lookup u = some .local := by first | exact .inl rfl | exact .inr rfl)
    (hst : (assignEach [.Name x px, .Name y py, .Name z pz, .Name u pu] X.env).findIdx? (·.1) = none := by rfl) :
    DS X p W (.Assign [.Tuple [.Name x px, .Name y py, .Name z pz, .Name u pu] kt pt] (.Tuple [a, b, c, d] k2 pt2) pos) (sPar4 i j l m ta tb tc td) := ⟨PS.imp (ps_asg (pe_tup (pa_cons ha.pe (pa_cons hb.pe (pa_cons hcc.pe (pa_cons hd.pe pa_nil hsd) hsc) hsb) hsa))
      (pg_tup hc (pgs_cons (pg_name hN hi hx fx) (pgs_cons (pg_name hN hj hy fy) (pgs_cons (pg_name hN hl hz fz) (pgs_cons (pg_name hN hm hu fu) pgs_nil)))) rfl hst) hs hw) fun D σ H ⟨M, ρ, e, S, h, lk⟩ => by
  refine ⟨M, ρ, _, _, S, h, fun v1 M1 H1 ρ1 r1 P1 S1 R1 h1 => ?_, fun c M1 H1 ρ1 P1 h1 => lk.xc c M1 σ H1 ρ1 P1 h1⟩
  refine ⟨M1, ρ1, _, _, P1.sim, h1, fun v2 M2 H2 ρ2 r2 P2 S2 R2 h2 => ?_, fun c M2 H2 ρ2 P2 h2 => lk.xc c M2 σ H2 ρ2 (P1.trans S P2) h2⟩
  have P12 := P1.trans S P2
  refine ⟨M2, ρ2, _, _, P2.sim, h2, fun v3 M3 H3 ρ3 r3 P3 S3 R3 h3 => ?_, fun c M3 H3 ρ3 P3 h3 => lk.xc c M3 σ H3 ρ3 (P12.trans S P3) h3⟩
  have P13 := P12.trans S P3
  refine ⟨M3, ρ3, _, _, P3.sim, h3, fun v4 M4 H4 ρ4 r4 P4 S4 R4 h4 => ?_, fun c M4 H4 ρ4 P4 h4 => lk.xc c M4 σ H4 ρ4 (P13.trans S P4) h4⟩
  have P14 := P13.trans S P4
  refine ⟨by show 4 ≤ sizeLine; decide, fun q hq => ?_⟩
  obtain ⟨st, mok, nM⟩ := rep_new (o := .tup [v1, v2, v3, v4]) P4.sim.mok hq
  have Pq := P4.sim.post st mok
  have P1q := P14.trans S Pq
  obtain ⟨⟨r4', ρ5⟩, e4, h5⟩ := some!_ok h4
  have R4q := R4.post P4.sim Pq (Slots.refl _)
  obtain ⟨M5, P5, S5, R5, nk5⟩ := ripe_ok Pq.sim R4q e4
  obtain ⟨⟨r3', ρ6⟩, e3, h6⟩ := some!_ok h5
  have R3q := ((R3.post P3.sim P4 S4).post P4.sim Pq (Slots.refl _)).post Pq.sim P5 S5
  obtain ⟨M6, P6, S6, R6, nk6⟩ := ripe_ok P5.sim R3q e3
  obtain ⟨⟨r2', ρ7⟩, e2, h7⟩ := some!_ok h6
  have R2q := ((((R2.post P2.sim P3 S3).post P3.sim P4 S4).post P4.sim Pq (Slots.refl _)).post Pq.sim P5 S5).post P5.sim P6 S6
  obtain ⟨M7, P7, S7, R7, nk7⟩ := ripe_ok P6.sim R2q e2
  have R1q := ((((((R1.post P1.sim P2 S2).post P2.sim P3 S3).post P3.sim P4 S4).post P4.sim Pq (Slots.refl _)).post Pq.sim P5 S5).post P5.sim P6 S6).post P6.sim P7 S7
  have R5' := (R5.post P5.sim P6 S6).post P6.sim P7 S7
  have R6' := R6.post P6.sim P7 S7
  have P17 := ((P1q.trans S P5).trans S P6).trans S P7
  have dq : ∀ a, H4 a ≠ none → upd H4 q (.tup [v1, v2, v3, v4]) a ≠ none := st.dom
  have d1 : ∀ a, H1 a ≠ none → H2 a ≠ none := P2.step.dom
  have d2 : ∀ a, H2 a ≠ none → H3 a ≠ none := P3.step.dom
  obtain ⟨ρ8, g1, h8⟩ := some!_ok h7
  obtain ⟨M8, P8, W8⟩ := store_waits (i := i) S P17 R1q g1
  have T2 := W8 H1 v2 r2' R7 nk7 (n_there R1)
  have T3 := W8 H2 v3 r3' R6' nk6 fun a ea hx => d1 a (n_there R1 a ea hx)
  have T4 := W8 H3 v4 r4' R5' nk5 fun a ea hx => d2 a (d1 a (n_there R1 a ea hx))
  obtain ⟨ρ9, g2, h9⟩ := some!_ok h8
  have T2' := T2.back (H00 := H) P1.step.dom
  obtain ⟨M9, P9, W9⟩ := store_waits (i := j) S P8 T2' g2
  have T3' := W9 H2 v3 r3' T3 nk6 fun a ea ⟨x, hx⟩ => n_there R2 a ea ⟨x, ripe_n_of e2 hx⟩
  have T4' := W9 H3 v4 r4' T4 nk5 fun a ea ⟨x, hx⟩ => d2 a (n_there R2 a ea ⟨x, ripe_n_of e2 hx⟩)
  obtain ⟨ρ10, g3, h10⟩ := some!_ok h9
  have T3'' := T3'.back (H00 := H) P12.step.dom
  obtain ⟨M10, P10, W10⟩ := store_waits (i := l) S P9 T3'' g3
  have T4'' := W10 H3 v4 r4' T4' nk5 fun a ea ⟨x, hx⟩ => n_there R3 a ea ⟨x, ripe_n_of e3 hx⟩
  obtain ⟨ρ11, g4, h11⟩ := some!_ok h10
  have T4f := T4''.back (H00 := H) P13.step.dom
  obtain ⟨M11, P11⟩ := store_ok (i := m) S P10 T4f g4
  exact ⟨q, [v1, v2, v3, v4], rfl, .inl (.inl upd_same), rfl, v1, _, rfl, v2, _, rfl, v3, _, rfl, v4, _, rfl, rfl, lk.nx M11 _ _ ρ11 P11 h11⟩⟩
end
theorem sPar4_ {i j l m : Nat} {ta tb tc td : ET} {e : SE} {ρ : Ev} : sPar4 i j l m ta tb tc td e ρ = ta ρ (fun r1 ρ1 => tb ρ1 (fun r2 ρ2 => tc ρ2 (fun r3 ρ3 => td ρ3 (fun r4 ρ4 => some! (ripe ρ4 r4) fun y4 => some! (ripe y4.2 r3) fun y3 => some! (ripe y3.2 r2) fun y2 =>
  some! (store i y2.2 r1) fun ρ5 => some! (store j ρ5 y2.1) fun ρ6 => some! (store l ρ6 y3.1) fun ρ7 => some! (store m ρ7 y4.1) e.nx) e.xc) e.xc) e.xc) e.xc := rfl
end DL

local macro_rules | `(tactic| walk_at "dl") => `(tactic| (simp (config := { failIfUnchanged := false, dsimp := false }) only [↓DL.sNext_, ↓DL.sSeq_, ↓DL.sBreak_, ↓DL.sCont_, ↓DL.sExpr_, ↓DL.sRet_, ↓DL.sRetN_, ↓DL.sIf_, ↓DL.sSet_, ↓DL.sAug_, ↓DL.sPar_, ↓DL.sPar3_, ↓DL.sPar4_, ↓DL.sAsg_, ↓DL.sRaise_, ↓DL.sTryW_, ↓DL.sFor_, ↓DL.sWhile_, ↓DL.tLc_, ↓DL.tK_, ↓DL.tV_, ↓DL.t2_, ↓DL.t1_, ↓DL.tT_, ↓DL.tTr_, ↓DL.tCh_, ↓DL.bAnd_, ↓DL.bOr_, ↓DL.bNot_, ↓DL.bYes_, ↓DL.tAnd_, ↓DL.tOr_, ↓DL.tNot_, ↓DL.tIf_, ↓DL.aNil_, ↓DL.aCons_, ↓DL.tC_, ↓DL.tTup_, ↓DL.tLst_, ↓DL.tCall_, ↓DL.tCallIO_, ↓DL.tAppend_, ↓DL.tPop_, ↓DL.tDNew_, ↓DL.gSetD_, ↓DL.tIndex_, ↓DL.oNone_, ↓DL.oSome_, ↓DL.tSl_, ↓DL.iSeqD_, ↓DL.iR1_, ↓DL.iR2_, ↓DL.iR3_, ↓DL.gVar_, ↓DL.gTup_, ↓DL.gsNil_, ↓DL.gsCons_, ↓DL.gSetL_, ↓DL.sm_, ↓DL.fm1_, ↓DL.fm2_, ↓DL.br_, DL.sm_some, DL.fm1_some, DL.fm2_some, DL.br_true, DL.br_false, DL.br_not, DL.ioR_, DL.rd_d, DL.rd_n, DL.rd_o, DL.rdS_va, DL.rdS_ow, DL.rdS_io, DL.slR_va, DL.slR_ow, DL.slR_io, DL.blR_, DL.intR_, DL.cool_d, DL.cool_n', DL.cool_o, DL.rdL_nil, DL.rdL_c, DL.settle_d, DL.settle_n, DL.settle_o, DL.settleS_va, DL.settleS_ow, DL.settleL_nil, DL.settleL_c, DL.store_d, DL.store_n, DL.store_o, DL.storeS_ow, DL.retR_d, DL.retR_n, DL.retR_o, DL.retS_ow, DL.ripe_d, DL.ripe_n, DL.ownL_o, DL.ownS_ow, DL.ownK_o, DL.keyR_, DL.keyD_i, DL.keyD_s, DL.fIn_l, DL.fIn_t, DL.fIn_f, DL.fInD_, DL.fIxD_, DL.fLRg_, DL.isLst_l, DL.isLst_f, DL.fIndex_l, DL.fSl_l, DL.fSl_t, DL.flatD_i, DL.flatD_s, Option.bind_some, DL.ownS_io, DL.put_, DL.putS_ow, DL.putS_io, DL.seqS_lst, DL.seqS_tup, DL.seqS_fz, DL.ioS_io, DL.fI_, DL.fI0_, DL.fAdd_i, DL.fAdd_l, DL.fMul_i, DL.fMul_l, DL.fIx_l, DL.fIx_t, DL.fIx_f, DL.fNeg_, DL.fLen_l, DL.fLen_t, DL.fLen_f, DL.fAbs_, DL.fInt1_i, DL.fInt1_b, DL.fInts2_, DL.fTuple_l, DL.fTuple_t, DL.fList_l, DL.fList_t, DL.fList_f, DL.fLRev_, DL.fDivmod_, DL.fGcd_, DL.ripe_o, DL.fIsi_, DL.fIs_n, DL.fEq_i, DL.fEq_b, DL.fNe_i, DL.fNe_b, DL.fEq_t, DL.fEq_l, DL.fNe_l, DL.fNe_t, DL.fEq_s, DL.truD_b, DL.truD_i, DL.truD_n, DL.isD, DL.isNon, DL.startE, DL.startIO, ↓DL.iStrD_, ↓DL.tStrM_, ↓DL.tDisp1_, DL.fMulS_, DL.fNe_s, DL.isStr_, DL.fEndsW_, DL.fJoin_, DL.fLen_s, DL.fAdd_s, DL.fIx_s, DL.fSl_s, DL.fSumA_, DL.fMaxA_, DL.fMinA_, DL.fSorted_, DL.fSortedT_, ↓DL.iEnumD_, ↓DL.tLRg3_, DL.rowI_l, DL.rowI_t, DL.rowI_f, DL.atI_0, DL.atI_1, DL.atI_2, DL.atI_3, DL.atI_4, DL.atI_5, DL.atI_6, DL.atI_7, DL.atI_8, DL.atI_9, DL.atI_10, DL.atI_11,
    List.getElem?_cons_zero, List.getElem?_cons_succ, List.getElem?_nil, List.set_cons_zero, List.set_cons_succ, List.length_cons, List.length_nil, List.map_cons, List.map_nil, List.replicate, List.cons_append, List.nil_append, List.length, Nat.reduceSub, Nat.reduceAdd, Nat.reduceMul, Nat.reduceLeDiff, Bool.not_true, Bool.not_false, if_true, if_false, decide_true, decide_false, Int.cast_ofNat_Int, Int.reduceEq, Int.reduceNeg, Int.reduceSub, Int.reduceAdd, Int.reduceMul, reduceCtorEq, Bool.false_eq_true, ite_true, ite_false, ↓reduceIte, true_and, and_true, Bool.xor_false, Bool.xor_true, Bool.false_xor, Bool.true_xor]; try (first | rw [DL.br_dec] | rw [DL.br_any])))
local macro_rules | `(tactic| walk_at "bt") => `(tactic| with_reducible repeat' (first | assumption | exact DL.bt_lit (by decide) | apply DL.Bt.mul | apply DL.Bt.add | apply DL.Bt.sub | apply DL.Bt.div | apply DL.Bt.neg))
local macro_rules | `(tactic| walk_at "cm") => `(tactic| (apply DL.cmulx; (focus walk_at "bt"); (focus walk_at "bt"); decide))

set_option Elab.async false
set_option linter.all false
set_option maxRecDepth 100000
set_option maxHeartbeats 4000000
namespace LW
open PySem PySem.Spec PyProof.Rows L2 DL
/-! ### the defs that every law has: their readings, printed by gen.py -/
def T_is_number : ST := (sRet (tAnd' (t1 (fIsi .int) (tV 0)) (tAnd' (tNot' (t1 (fIsi .bool) (tV 0))) (tCh fLe fLe (tV 1) (tV 0) (tV 2)))))
def T__law_draws : ST := (sSeq (sSet 1 (tLst' aNil))
    (sSeq (sFor (iSeqD (tV 0)) (gVar 2) (sSeq (sSet 3 (tC' fAbs (aCons (tV 2) aNil)))
    (sSeq (sIf (tT (t2 (fLt) (tV 3) (t2 fPow (tK (.int 10)) (tK (.int 18))))) (sSeq (sSet 4 (t2 fMod (tC' fInt1 (aCons (t2 fAdd (t2 fMul (tV 3) (tK (.int 48271))) (tK (.int 11))) aNil)) (tK (.int 2147483647))))
    (sSeq (sExpr (tAppend (tV 1) (aCons (t2 fMod (tC' fInt1 (aCons (t2 fAdd (t2 fMul (tV 4) (tK (.int 69621))) (tV 3)) aNil)) (tK (.int 2147483629))) aNil)))
    (sSeq (sExpr (tAppend (tV 1) (aCons (t2 fMod (tC' fInt1 (aCons (t2 fAdd (tV 4) (t2 fDiv (tV 3) (tK (.int 7)))) aNil)) (tK (.int 1000003))) aNil)))
    (sSet 3 (tK (.int 0)))))) sNext)
    (sFor (iR1 (aCons (tK (.int 60)) aNil)) (gVar 5) (sIf (tT (t2 (fGt) (tV 3) (tK (.int 0)))) (sSeq (sExpr (tAppend (tV 1) (aCons (t2 fMod (tC' fInt1 (aCons (tV 3) aNil)) (tK (.int 997))) aNil)))
    (sSet 3 (t2 fDiv (tV 3) (tK (.int 997))))) sNext)))))
    (sSeq (sSet 6 (tK (.int 1)))
    (sSeq (sIf (tT (t2 (fGt) (tC' fLen (aCons (tV 0) aNil)) (tK (.int 0)))) (sSet 6 (t2 fAdd (tK (.int 1)) (tC' fAbs (aCons (t2 fIx (tV 0) (tK (.int 0))) aNil)))) sNext)
    (sSeq (sFor (iR1 (aCons (tK (.int 900)) aNil)) (gVar 5) (sSeq (sSet 6 (t2 fMod (tC' fInt1 (aCons (t2 fAdd (t2 fMul (tV 6) (tK (.int 48271))) (tK (.int 69621))) aNil)) (tK (.int 2147483647))))
    (sExpr (tAppend (tV 1) (aCons (t2 fDiv (tV 6) (tK (.int 5))) aNil)))))
    (sRet (t1 fLRev (tV 1))))))))
def T__law_take : ST := (sSeq (sIf (tT (t2 (fEq) (tC' fLen (aCons (tV 0) aNil)) (tK (.int 0)))) (sRet (tK (.int 0))) sNext)
    (sRet (t2 fMod (tC' fInt1 (aCons (tPop (tV 0)) aNil)) (tV 1))))
def T__law_alike (sp__law_alike : PSp) : ST := (sSeq (sIf (bOr (tTr (t1 (fIsi .list) (tV 1))) (tTr (t1 (fIsi .tuple) (tV 1)))) (sSeq (sIf (bOr (tT (t2 (fNe) (t1 (fIsi .list) (tV 0)) (t1 (fIsi .list) (tV 1)))) (tT (t2 (fNe) (t1 (fIsi .tuple) (tV 0)) (t1 (fIsi .tuple) (tV 1))))) (sRet (tK (.bl false))) sNext)
    (sRet (tAnd' (t2 (fEq) (tC' fLen (aCons (tV 0) aNil)) (tC' fLen (aCons (tV 1) aNil))) (t2 (fEq) (tLc' (iR1 (aCons (tC' fLen (aCons (tV 1) aNil)) aNil)) (gVar 2) (bNot (tTr (tCall' sp__law_alike (aCons (t2 fIx (tV 0) (tV 2)) (aCons (t2 fIx (tV 1) (tV 2)) aNil))))) (tV 2) [2]) (tLst' aNil))))) sNext)
    (sSeq (sIf (tT (t2 (fIs false) (tV 1) (tK .non))) (sRet (t2 (fIs false) (tV 0) (tK .non))) sNext)
    (sSeq (sIf (bOr (tTr (t1 (fIsi .bool) (tV 1))) (tTr (t1 (fIsi .bool) (tV 0)))) (sRet (tAnd' (t1 (fIsi .bool) (tV 0)) (tAnd' (t1 (fIsi .bool) (tV 1)) (t2 (fEq) (tV 0) (tV 1))))) sNext)
    (sSeq (sIf (tTr (t1 (fIsi .int) (tV 1))) (sRet (tAnd' (t1 (fIsi .int) (tV 0)) (t2 (fEq) (tV 0) (tV 1)))) sNext)
    (sRet (tAnd' (t1 (fIsi .str) (tV 0)) (t2 (fEq) (tV 0) (tV 1))))))))
def T__law_says : ST := (sRet (tAnd' (t1 (fIsi .bool) (tV 0)) (t2 (fEq) (tV 0) (tV 1))))

/-! ### what they promise -/
abbrev SEr (q : RV → Prop) (x : Addr → Prop) : SE := ⟨fun _ => q (.d .non), fun r _ => q r, fun _ => False, fun _ => False, fun c _ => x c⟩
def numB : D → Int → Int → Bool
  | .int i, a, b => decide (a ≤ i) && decide (i ≤ b)
  | _, _, _ => false
def sp_is_number : PSp := fun ds q _ => ∃ v a b, ds = [v, .int a, .int b] ∧ isOp v = false ∧ q (.d (.bl (numB v a b)))
theorem is_number_ok (ds q x) (h : sp_is_number ds q x) : T_is_number (SEr q x) (startE ["value", "least", "most"] ds) := by
  obtain ⟨v, a, b, rfl, ho, h⟩ := h
  unfold T_is_number
  cases v with
  | op v => cases ho
  | int i =>
    walk_at "dl"
    have h : q (.d (.bl (decide (a ≤ i) && decide (i ≤ b)))) := h
    split
    · rename_i h1
      rw [decide_eq_true h1, Bool.true_and] at h
      exact h
    · rename_i h1
      rw [decide_eq_false h1, Bool.false_and] at h
      exact h
  | _ => walk_at "dl"; exact h
theorem numB_t {t a b : Int} (h : a ≤ t ∧ t ≤ b) : numB (.int t) a b = true := by
  show (decide _ && decide _) = true
  rw [decide_eq_true h.1, decide_eq_true h.2]
  rfl
theorem numB_f {t a b : Int} (h : ¬ (a ≤ t ∧ t ≤ b)) : numB (.int t) a b = false := by
  show (decide _ && decide _) = false
  rw [← Bool.decide_and]
  exact decide_eq_false h
/-! _law_says -/
def sp_says : PSp := fun ds q _ => ∃ b, ds = [.bl b, .bl b] ∧ q (.d (.bl true))
theorem says_ok (ds q x) (h : sp_says ds q x) : T__law_says (SEr q x) (startE ["told", "due"] ds) := by
  obtain ⟨b, rfl, h⟩ := h
  unfold T__law_says
  walk_at "dl"
  exact h
/-! _law_take -/
def sp_take : PSpIO := fun d ds q _ => ∃ (rs : List Int) (b : Int), d = .lst (rs.map .int) ∧ ds = [.int b] ∧ 0 < b ∧ ∀ (r : Int) (rs' : List Int), 0 ≤ r → r < b → q (.d (.int r)) (.lst (rs'.map .int))
theorem take_ok (d ds q x) (h : sp_take d ds q x) : T__law_take ⟨fun ρ => some! (ioS ρ[0]?) fun y => q (.d .non) y, fun r ρ => some! (ioS ρ[0]?) fun y => q r y, fun _ => False, fun _ => False, fun c ρ => some! (ioS ρ[0]?) fun y => x c y⟩ (startIO ["draws", "bound"] d ds) := by
  obtain ⟨rs, b, rfl, rfl, hb, h⟩ := h
  unfold T__law_take
  walk_at "dl"
  split
  · walk_at "dl"
    exact h 0 rs (by omega) hb
  · rename_i h0
    rw [List.length_map] at h0
    have hn : rs.length - 1 < rs.length := by omega
    (walk_at "dl"; repeat (simp only [List.length_map, List.getElem?_map, List.getElem?_eq_getElem hn, Option.map_some, ← List.map_dropLast]; walk_at "dl"))
    exact ⟨hb, h _ _ (Int.emod_nonneg _ (by omega)) (Int.emod_lt_of_pos _ hb)⟩
/-! _law_draws -/
def sp_draws : PSp := fun ds q _ => ∃ ns : List Int, ds = [.fz (ns.map .int)] ∧ ns.length ≤ 63 ∧ (∀ z ∈ ns, Bt 1048576 z) ∧ ∀ rs : List Int, q (.n (.lst (rs.map .int)))
abbrev dInner : ST := (sFor (iR1 (aCons (tK (D.int 60)) aNil)) (gVar 5)
          (sIf (tT (t2 fGt (tV 3) (tK (D.int 0))))
            (sSeq (sExpr (tAppend (tV 1) (aCons (t2 fMod (tC' fInt1 (aCons (tV 3) aNil)) (tK (D.int 997))) aNil)))
              (sSet 3 (t2 fDiv (tV 3) (tK (D.int 997)))))
            sNext))
theorem rng_get {lo : Int} {n i : Nat} {d : D} (h : (rngD lo n)[i]? = some d) : i < n ∧ d = .int (lo + (i : Int)) := by
  unfold rngD at h
  rw [List.getElem?_map] at h
  rcases Nat.lt_or_ge i n with g | g
  · rw [List.getElem?_range g] at h
    exact ⟨g, (Option.some.inj h).symm⟩
  · rw [List.getElem?_eq_none (by rw [List.length_range]; exact g)] at h
    cases h
theorem rng_len {lo : Int} {n : Nat} : (rngD lo n).length = n := by
  unfold rngD
  rw [List.length_map, List.length_range]
theorem ints_snoc (ds : List Int) (i : Int) : ds.map D.int ++ [.int i] = (ds ++ [i]).map D.int := by rw [List.map_append]; rfl
theorem inner_ok (e : SE) (s0 s2 s4 s5 s6 : Sl) (ds : List Int) (a : Int) (hz : ds.length ≤ 10000)
    (hq : ∀ (ds' : List Int) (a' : Int) (s5 : Sl), ds'.length ≤ ds.length + 60 → e.nx [s0, .ow (.lst (ds'.map .int)), s2, .va (.int a'), s4, s5, s6]) :
    dInner e [s0, .ow (.lst (ds.map .int)), s2, .va (.int a), s4, s5, s6] := by
  walk_at "dl"
  refine ⟨by decide, by decide, ?_⟩
  refine ⟨fun i ρ => ∃ (ds' : List Int) (a' : Int) (s5 : Sl), ρ = [s0, .ow (.lst (ds'.map .int)), s2, .va (.int a'), s4, s5, s6] ∧ ds'.length ≤ ds.length + i, ⟨ds, a, s5, rfl, Nat.le_refl _⟩, fun i d ρ hd hP => ?_, fun ρ hP => ?_⟩
  · obtain ⟨hi, rfl⟩ := rng_get hd
    obtain ⟨ds', a', s5, rfl, hl⟩ := hP
    have hi : i < 60 := hi
    walk_at "dl"
    split
    · walk_at "dl"
      refine ⟨by decide, ?_⟩
      rw [List.length_map, ints_snoc]
      refine ⟨Nat.lt_of_le_of_lt (show ds'.length ≤ 20000 by omega) (by decide), cdivw (by decide) (bt_lit (by decide)) (by decide), _, _, _, rfl, ?_⟩
      rw [List.length_append]
      show ds'.length + 1 ≤ _
      omega
    · walk_at "dl"
      exact ⟨ds', a', _, rfl, by omega⟩
  · obtain ⟨ds', a', s5, rfl, hl⟩ := hP
    rw [rng_len] at hl
    exact hq ds' a' s5 hl
theorem draws_ok (ds q x) (h : sp_draws ds q x) : T__law_draws (SEr q x) (startE ["script", "draws", "cell", "number", "first", "k", "seed"] ds) := by
  obtain ⟨ns, rfl, hl, hb, h⟩ := h
  unfold T__law_draws
  walk_at "dl"
  refine ⟨fun i ρ => ∃ (ds : List Int) (s2 s3 s4 s5 s6 : Sl), ρ = [.va (.fz (ns.map .int)), .ow (.lst (ds.map .int)), s2, s3, s4, s5, s6] ∧ ds.length ≤ 64 * i, ⟨[], _, _, _, _, _, rfl, Nat.le_refl _⟩, fun i d ρ hd hP => ?_, fun ρ hP => ?_⟩
  · obtain ⟨ds, s2, s3, s4, s5, s6, rfl, hz⟩ := hP
    rw [List.getElem?_map] at hd
    obtain ⟨c, hc, rfl⟩ := Option.map_eq_some_iff.mp hd
    have hi : i < ns.length := (List.getElem?_eq_some_iff.mp hc).1
    have bc : Bt 1048576 c := hb c (List.mem_of_getElem? hc)
    walk_at "dl"
    generalize ha : (if c < 0 then -c else c) = a
    have ba : Bt 1048576 a := by
      rw [← ha]
      split
      · exact bc.neg
      · exact bc
    refine ⟨⟨by decide, by decide, by decide⟩, ?_⟩
    split
    · walk_at "dl"
      refine ⟨by walk_at "cm", by decide, ?_⟩
      have bf : Bt 64 ((a * 48271 + 11) % 2147483647) := Bt.mod (by decide) (bt_lit (by decide))
      generalize (a * 48271 + 11) % 2147483647 = f at bf ⊢
      refine ⟨by walk_at "cm", by decide, ?_⟩
      rw [List.length_map, ints_snoc]
      refine ⟨Nat.lt_of_le_of_lt (show ds.length ≤ 20000 by omega) (by decide), cdivw (by decide) (bt_lit (by decide)) (by decide), by decide, ?_⟩
      rw [List.length_map, List.length_append, ints_snoc]
      refine ⟨Nat.lt_of_le_of_lt (show ds.length + 1 ≤ 20000 by omega) (by decide), ?_⟩
      refine inner_ok _ _ _ _ _ _ _ _ ?_ fun ds' a' s5 hl' => ⟨ds', _, _, _, _, _, rfl, ?_⟩
      · simp only [List.length_append, List.length_cons, List.length_nil]
        omega
      · simp only [List.length_append, List.length_cons, List.length_nil] at hl'
        omega
    · refine inner_ok _ _ _ _ _ _ _ _ ?_ fun ds' a' s5 hl' => ⟨ds', _, _, _, _, _, rfl, ?_⟩
      · omega
      · omega
  · obtain ⟨ds, s2, s3, s4, s5, s6, rfl, hz⟩ := hP
    rw [List.length_map] at hz
    have fin : ∀ (s6 : Int), Bt 1048700 s6 → sSeq (sFor (iR1 (aCons (tK (D.int 900)) aNil)) (gVar 5)
                (sSeq
                  (sSet 6
                    (t2 fMod (tC' fInt1 (aCons (t2 fAdd (t2 fMul (tV 6) (tK (D.int 48271))) (tK (D.int 69621))) aNil))
                      (tK (D.int 2147483647))))
                  (sExpr (tAppend (tV 1) (aCons (t2 fDiv (tV 6) (tK (D.int 5))) aNil)))))
              (sRet (t1 fLRev (tV 1))) (SEr q x) [.va (.fz (ns.map .int)), .ow (.lst (ds.map .int)), s2, s3, s4, s5, .va (.int s6)] := fun s6 b6 => by
      walk_at "dl"
      refine ⟨by decide, by decide, ?_⟩
      refine ⟨fun i ρ => ∃ (ds' : List Int) (s5 : Sl) (s6 : Int), ρ = [.va (.fz (ns.map .int)), .ow (.lst (ds'.map .int)), s2, s3, s4, s5, .va (.int s6)] ∧ ds'.length ≤ ds.length + i ∧ Bt 1048700 s6, ⟨ds, s5, s6, rfl, Nat.le_refl _, b6⟩, fun i d ρ hd hP => ?_, fun ρ hP => ?_⟩
      · obtain ⟨hi, rfl⟩ := rng_get hd
        obtain ⟨ds', s5, s6, rfl, hl', b6⟩ := hP
        have hi : i < 900 := hi
        walk_at "dl"
        refine ⟨by walk_at "cm", by decide, cdivw (by decide) (bt_lit (by decide)) (by decide), ?_⟩
        rw [List.length_map, ints_snoc]
        refine ⟨Nat.lt_of_le_of_lt (show ds'.length ≤ 20000 by omega) (by decide), _, _, _, rfl, ?_, (Bt.mod (by decide) (bt_lit (by decide))).mono (by decide)⟩
        rw [List.length_append]
        show ds'.length + 1 ≤ _
        omega
      · obtain ⟨ds', s5, s6, rfl, hl', b6⟩ := hP
        (walk_at "dl"; repeat (simp only [← List.map_reverse]; walk_at "dl"))
        exact h _
    walk_at "dl"
    split
    · rename_i h0
      cases ns with
      | nil => exact absurd h0 (by decide)
      | cons n ns =>
        walk_at "dl"
        have bn : Bt 1048576 n := hb n List.mem_cons_self
        have := fin (1 + if n < 0 then -n else n) (by
          refine Bt.mono (a := 64 + 1048576 + 1) (Bt.add (bt_lit (by decide)) ?_) (by decide)
          split
          · exact bn.neg
          · exact bn)
        exact this
    · exact fin 1 ((bt_lit (by decide)).mono (by decide))
/-! _law_alike: what is the same -/
def scal : D → Bool
  | .non => true
  | .bl _ => true
  | .int _ => true
  | .str _ => true
  | _ => false
def sp_bot : PSp := fun _ _ _ => False
def sp_alike0 : PSp := fun ds q _ => ∃ v, ds = [v, v] ∧ scal v = true ∧ shD v ∧ q (.d (.bl true))
theorem eqv_self_str (x : Str) : eqD (.str x) (.str x) = true := by
  unfold eqD pyD
  simp [PyData.eqv]
theorem alike0_ok (sp ds q x) (h : sp_alike0 ds q x) : T__law_alike sp (SEr q x) (startE ["found", "due", "k"] ds) := by
  obtain ⟨v, rfl, hs, hsh, h⟩ := h
  unfold T__law_alike
  cases v with
  | non => walk_at "dl"; exact h
  | bl b => walk_at "dl"; exact h
  | int i => walk_at "dl"; exact h
  | str z =>
    walk_at "dl"
    refine ⟨hsh, hsh, ?_⟩
    rw [eqv_self_str]
    exact h
  | _ => cases hs
def sp_alike1 : PSp := fun ds q x => sp_alike0 ds q x ∨ ∃ vs, ds = [.lst vs, .lst vs] ∧ vs.length ≤ 1000 ∧ (∀ v ∈ vs, scal v = true ∧ shD v) ∧ q (.d (.bl true))
theorem sh_nil : shD (.lst []) := rfl
theorem alike1_ok (ds q x) (h : sp_alike1 ds q x) : T__law_alike sp_alike0 (SEr q x) (startE ["found", "due", "k"] ds) := by
  rcases h with h | ⟨vs, rfl, hl, hv, h⟩
  · exact alike0_ok _ ds q x h
  unfold T__law_alike
  walk_at "dl"
  have e2 : (2 : Int) ^ 62 = 4611686018427387904 := by decide
  refine ⟨by omega, by omega, ?_⟩
  refine ⟨rfl, fun i acc ρ => acc = [] ∧ ρ = [.va (.lst vs), .va (.lst vs), .no], ⟨rfl, rfl⟩, fun i d acc ρ hd hP => ?_, fun acc ρ hP => ?_⟩
  · obtain ⟨rfl, rfl⟩ := hP
    obtain ⟨hi, rfl⟩ := rng_get hd
    have hi : i < vs.length := by omega
    have g := List.getElem?_eq_getElem hi
    rw [show (0 : Int) + (i : Int) = (i : Int) by omega]
    (walk_at "dl"; repeat (simp only [atI_at (n := i) rfl g]; walk_at "dl"))
    have := hv _ (List.getElem_mem hi)
    refine ⟨_, rfl, this.1, this.2, ?_⟩
    walk_at "dl"
    rfl
  · obtain ⟨rfl, rfl⟩ := hP
    walk_at "dl"
    refine ⟨sh_nil, sh_nil, ?_⟩
    rw [show eqD (.lst []) (.lst []) = true by unfold eqD pyD pyDs; simp [PyData.eqv, PyData.eqvAll]]
    exact h
end LW

set_option Elab.async false
set_option linter.all false
set_option maxRecDepth 100000
set_option maxHeartbeats 4000000
namespace DL
open PySem PySem.Spec PyProof.Rows L2
/-! ### below the hand layer: is_number of an item, called from a generator expression -/
/-- what a value's type needs of the heap, and that the heap has it -/
def TyAt (K : PySem.W.Frag) (u t : Value) (h : Heap) : Prop := ∃ Z : Heap → Prop, PySem.W.KitX K u t Z ∧ Z h ∧ u ≠ .builtin "__main__.__loader__#opaque" ∧ ∀ h' : Heap, (∀ b o, h.get? b = some o → h'.get? b = some o) → Z h'
section
variable {P : Program} {w : World} {K : PySem.W.Frag} {M : Addr → Prop} {H : Hp} {v : V} {d : D} {u : Value} {s1 s2 : Heap}
theorem tyAt_of (kin : K.In s2) (hok : HOk P w H s1) (kp : ∀ b o, s1.get? b = some o → (∀ vs, o.data ≠ .fields vs) → s2.get? b = some o) (r : Rep K M H v d) (nop : isOp d = false) (rv : RelV v u) : TyAt K u (.type (kindN d)) s2 := by
  have mono : ∀ {a : Addr} {T : String} {o : Obj}, s2.get? a = some o → o.cls = .type T → ∀ h' : Heap, (∀ b o, s2.get? b = some o → h'.get? b = some o) → ∃ o, h'.get? a = some o ∧ o.cls = .type T := fun e c h' k => ⟨_, k _ _ e, c⟩
  cases d with
  | op v => cases nop
  | non => cases r; cases (show u = Value.none from rv); exact ⟨_, PySem.W.kitx_none, True.intro, (fun z => nomatch z), fun _ _ => True.intro⟩
  | bl y => cases r; cases (show u = Value.bool y from rv); exact ⟨_, PySem.W.kitx_bool, True.intro, (fun z => nomatch z), fun _ _ => True.intro⟩
  | int i => cases r; obtain ⟨t, q⟩ := (show ∃ t, u = Value.int i t from rv); cases q; exact ⟨_, PySem.W.kitx_int, True.intro, (fun z => nomatch z), fun _ _ => True.intro⟩
  | str y => cases r; obtain ⟨t, q⟩ := (show ∃ t, u = Value.str y t from rv); cases q; exact ⟨_, PySem.W.kitx_str, True.intro, (fun z => nomatch z), fun _ _ => True.intro⟩
  | tup ds =>
    cases r with
    | @tup a xs _ s _ =>
      cases (show u = Value.ref a from rv)
      have key : ∃ o, s2.get? a = some o ∧ o.cls = .type "tuple" := by
        rcases s with ⟨h1 | ⟨ob, h1⟩, _⟩ | ⟨o, its, n, h1, h2, _⟩
        · obtain ⟨_, its, _, o, e1, e2, n, e3⟩ := (show ObjOk P w H s1 a (.tup xs) from hok a _ h1)
          exact ⟨o, kp a o e1 (fun vs z => by rw [e3] at z; cases z), e2⟩
        · obtain ⟨_, _, its, _, o, e1, e2, n, e3⟩ := (show ObjOk P w H s1 a (.frz ob (.tup xs)) from hok a _ h1)
          exact ⟨o, kp a o e1 (fun vs z => by rw [e3] at z; cases z), e2⟩
        · exact ⟨o, kin a o h1, h2⟩
      obtain ⟨o, e1, e2⟩ := key
      exact ⟨_, PySem.W.kitx_tuple, ⟨o, e1, e2⟩, (fun z => nomatch z), fun h' k => ⟨_, k _ _ e1, e2⟩⟩
  | lst ds =>
    cases r with
    | @lst a xs _ h1 _ _ =>
      cases (show u = Value.ref a from rv)
      obtain ⟨_, its, n, _, e1⟩ := (show ObjOk P w H s1 a (.lst xs) from hok a _ h1)
      have e2 := kp a _ e1 (fun vs z => nomatch z)
      exact ⟨_, PySem.W.kitx_list, ⟨_, e2, rfl⟩, (fun z => nomatch z), fun h' k => ⟨_, k _ _ e2, rfl⟩⟩
  | fz ds =>
    cases r with
    | @fz a xs _ s _ =>
      cases (show u = Value.ref a from rv)
      have key : ∃ o, s2.get? a = some o ∧ o.cls = .type "list" := by
        rcases s with ⟨h1 | ⟨ob, h1⟩, _⟩ | ⟨o, its, n, h1, h2, _⟩
        · obtain ⟨_, its, n, _, e1⟩ := (show ObjOk P w H s1 a (.lst xs) from hok a _ h1)
          exact ⟨_, kp a _ e1 (fun vs z => nomatch z), rfl⟩
        · obtain ⟨_, _, its, n, _, e1⟩ := (show ObjOk P w H s1 a (.frz ob (.lst xs)) from hok a _ h1)
          exact ⟨_, kp a _ e1 (fun vs z => nomatch z), rfl⟩
        · exact ⟨o, kin a o h1, h2⟩
      obtain ⟨o, e1, e2⟩ := key
      exact ⟨_, PySem.W.kitx_list, ⟨o, e1, e2⟩, (fun z => nomatch z), fun h' k => ⟨_, k _ _ e1, e2⟩⟩
  | dic ds =>
    cases r with
    | @dic a xs _ h1 _ _ =>
      cases (show u = Value.ref a from rv)
      obtain ⟨_, _, vs, _, o, es, ep, e1, e2, e3, _⟩ := (show ObjOk P w H s1 a (.dK xs) from hok a _ h1)
      have e4 := kp a _ e1 (fun vs z => by rw [e3] at z; cases z)
      exact ⟨_, PySem.W.kitx_dict, ⟨_, e4, e2.1⟩, (fun z => nomatch z), fun h' k => ⟨_, k _ _ e4, e2.1⟩⟩
  | dit ds =>
    cases r with
    | @dit a xs _ h1 _ _ =>
      cases (show u = Value.ref a from rv)
      obtain ⟨_, _, vs, _, o, es, ep, e1, e2, e3, _⟩ := (show ObjOk P w H s1 a (.dT xs) from hok a _ h1)
      have e4 := kp a _ e1 (fun vs z => by rw [e3] at z; cases z)
      exact ⟨_, PySem.W.kitx_dict, ⟨_, e4, e2.1⟩, (fun z => nomatch z), fun h' k => ⟨_, k _ _ e4, e2.1⟩⟩
theorem TyAt.more {t : Value} {h h' : Heap} (z : TyAt K u t h) (k : ∀ b o, h.get? b = some o → h'.get? b = some o) : TyAt K u t h' := by
  obtain ⟨Z, a, b, c, m⟩ := z
  exact ⟨Z, a, m h' k, c, fun h2 k2 => m h2 fun b o e => k2 b o (k b o e)⟩
end
/-- an environment in which a def's names are seen -/
structure LEnv (K : PySem.W.Frag) (mg : Str → Option Value) (base : Heap) (env : Env) (m : Str → Option Value) (s : Shared) : Prop where
  mod : L2.Mod K mg base
  kind : env.scope.kind = .function
  glob : env.globals = mainGlobals
  blt : env.builtins = builtinsNs
  bk : ∀ b o, base.get? b = some o → s.heap.get? b = some o
  ns : s.heap.Ns env.locals m
section
variable {P : Program} {w : World} {K : PySem.W.Frag} {mg : Str → Option Value} {base : Heap} {env : Env} {m : Str → Option Value} {s s' : Shared} {A : Around} {E : Value → Shared → Prop} {Q : Value → Shared → Prop} {x : Str} {u : Value} {pos : Pos}
theorem LEnv.tok (L : LEnv K mg base env m s) (t : Nat) : LEnv K mg base env m { s with toks := t } := ⟨L.mod, L.kind, L.glob, L.blt, L.bk, L.ns⟩
theorem LEnv.kin (L : LEnv K mg base env m s) : K.In s.heap := L.mod.kin.keeps L.bk
theorem low_glob (L : LEnv K mg base env m s) (hg : env.kindOf x = some .globalImplicit) (hm : mg x = some u) (h : Q u s) (hd : (x == ("__debug__" : Str)) = false := by decide) : wpAny (model P w) A (eval (.Name x pos) env) Q E s :=
  Calls.Name_function_global L.kind hg (Calls.loadGlobal_global (by rw [L.glob]; exact L.mod.glob.keeps L.bk) hm h) hd
theorem low_blt (L : LEnv K mg base env m s) (hg : env.kindOf x = some .globalImplicit) (hm : mg x = none) (hv : bootBuiltins x = some u) (h : Q u s) (hn : x ≠ "__name__" := by decide) (hd : (x == ("__debug__" : Str)) = false := by decide) : wpAny (model P w) A (eval (.Name x pos) env) Q E s := by
  obtain ⟨mb, h1, h2⟩ := L.mod.blt
  exact Calls.Name_function_global L.kind hg (Calls.loadGlobal_builtin (by rw [L.glob]; exact L.mod.glob.keeps L.bk) hm (by rw [L.blt]; exact h1.keeps L.bk) ((h2 x hn).trans hv) h) hd
theorem low_loc (L : LEnv K mg base env m s) (hl : env.kindOf x = some .local) (hm : m x = some u) (h : Q u s) (hd : (x == ("__debug__" : Str)) = false := by decide) : wpAny (model P w) A (eval (.Name x pos) env) Q E s :=
  wpAny_Name (wpAny_loadName_local L.kind hl L.ns hm h) hd
/-- isinstance(x, T) -/
theorem low_isi {T : TyN} {d : D} {b : Bool} {tn : Str} {p1 p2 p3 p4 : Pos} (L : LEnv K mg base env m s) (gi : env.kindOf "isinstance" = some .globalImplicit) (gT : env.kindOf tn = some .globalImplicit) (hi : mg "isinstance" = none) (hT : mg tn = none)
    (hbT : bootBuiltins tn = some (.type T.name)) (hl : env.kindOf x = some .local) (hm : m x = some u) (ty : TyAt K u (.type (kindN d)) s.heap) (e : isD T d = some b) (h : ∀ tk, Q (.bool b) { s with toks := tk }) (hn : tn ≠ "__name__" := by decide) (hd2 : (tn == ("__debug__" : Str)) = false := by decide) (hd : (x == ("__debug__" : Str)) = false := by decide) :
    wpAny (model P w) A (eval (.Call (.Name "isinstance" p1) [.Name x p2, .Name tn p3] [] p4) env) Q E s := by
  refine wpAny_Call_Name_kw (low_blt L gi hi (by decide +kernel : bootBuiltins "isinstance" = some (.builtin "isinstance")) ?_)
  refine PyProof.Rows.callWith_builtin1 ?_ rfl rfl
  show wpAny _ _ (spliced [(false, eval (.Name x p2) env), (false, eval (.Name tn p3) env)]) _ _ s
  refine Calls.spliced_cons (low_loc L hl hm ?_ hd)
  refine Calls.spliced_cons (low_blt L gT hT hbT ?_ hn hd2)
  refine Calls.spliced_nil ?_
  obtain ⟨Z, kx, z, ne, _⟩ := ty
  exact PySem.W.kia_one kx L.kin z (kit_ty (isD_kit T d b e)) ne h
end
/-- the body of is_number, whatever its places -/
def NumBody (st : Stmt) : Prop := ∃ p1 p2 p3 p4 p5 p6 p7 p8 p9 p10 p11 p12 p13 p14 p15 : Pos, defBody st = [.Return (some (.BoolOp .And [.Call (.Name "isinstance" p1) [.Name "value" p2, .Name "int" p3] [] p4,
  .UnaryOp .Not (.Call (.Name "isinstance" p5) [.Name "value" p6, .Name "bool" p7] [] p8) p9, .Compare (.Name "least" p10) [.LtE, .LtE] [.Name "value" p11, .Name "most" p12] p13] p14)) p15]
structure NumDef (K : PySem.W.Frag) (mg : Str → Option Value) (f : Addr) : Prop where
  ex : ∃ (st : Stmt) (fd : FuncData), Fun K "is_number" "is_number" st f fd ∧ NumBody st ∧ FnScope ["value", "least", "most"] ["value", "least", "most"] (defScope st) ∧ (∀ y ∈ (defScope st).names, y.2 ≠ .cell) ∧
    ((defScope st).names.lookup ("value" : Str) = some NameKind.local ∧ (defScope st).names.lookup ("least" : Str) = some NameKind.local ∧ (defScope st).names.lookup ("most" : Str) = some NameKind.local) ∧
    ((defScope st).names.lookup ("isinstance" : Str) = some NameKind.globalImplicit ∧ (defScope st).names.lookup ("int" : Str) = some NameKind.globalImplicit ∧ (defScope st).names.lookup ("bool" : Str) = some NameKind.globalImplicit) ∧ Binds K fd ["value", "least", "most"] []
  hm : mg "is_number" = some (.ref f)
  kp : PySem.W.keepIn K (.ref f) = true
  b1 : mg "isinstance" = none
  b2 : mg "int" = none
  b3 : mg "bool" = none
section
variable {P : Program} {w : World} {K : PySem.W.Frag} {mg : Str → Option Value} {base : Heap} {A : Around} {E : Value → Shared → Prop} {s : Shared} {f : Addr} {d : D} {u : Value} {i j : Int} {ti tj : Tok}
theorem low_num (N : NumDef K mg f) (hmod : L2.Mod K mg base) (bk : ∀ b o, base.get? b = some o → s.heap.get? b = some o) (hroom : A.depth < recursionLimit) (ty : TyAt K u (.type (kindN d)) s.heap) (nop : isOp d = false)
    (hint : ∀ n, d = .int n → ∃ t, u = .int n t) {Q : Value → Shared → Prop} (hQ : ∀ s', Keeps s s' → Q (.bool (LW.numB d i j)) s') :
    wpAny (model P w) A (call (.ref f) [u, .int i ti, .int j tj]) Q E s := by
  obtain ⟨st, fd, F, ⟨p1, p2, p3, p4, p5, p6, p7, p8, p9, p10, p11, p12, p13, p14, p15, hbody⟩, S, ncell, ⟨lv, ll, lm⟩, ⟨gi, gn, gb⟩, hb⟩ := N.ex
  have kin : K.In s.heap := hmod.kin.keeps bk
  have bnd := hb s [u, .int i ti, .int j tj] kin rfl
  obtain ⟨oc, od, kV, doc, pm, an, cdv, ct, osl, rfl, lk, hcd⟩ := F.ex
  refine wpAny_call (codeAny_call_def hroom (kin _ _ lk) rfl (hmod.nolimit.keeps bk) (PySem.W.codeRec_of kin hcd) rfl bnd ncell (fun y hy => ?_) (fun h₀ hn hk => ?_) S.co S.gen S.kind)
  · have hy : y ∈ [(("value" : Str), u), (("least" : Str), Value.int i ti), (("most" : Str), Value.int j tj)] := hy
    simp only [List.mem_cons, List.not_mem_nil, or_false] at hy
    rcases hy with rfl | rfl | rfl
    · exact lv
    · exact ll
    · exact lm
  · obtain ⟨env, he⟩ : ∃ env, env = callEnv (PySem.W.fnOf "is_number" "is_number" (defArgs st) (defBody st) (defScope st) .none kV doc pm an cdv ct) s.heap.objs.size f := ⟨_, rfl⟩
    have hsc : env.scope = defScope st := by rw [he]; rfl
    have L : LEnv K mg base env (fun x => (List.zip [("value" : Str), "least", "most"] ([u, .int i ti, .int j tj] ++ [])).reverse.lookup x) { s with heap := h₀, toks := s.toks + 3 } :=
      ⟨hmod, by rw [hsc]; exact S.kind, by rw [he]; rfl, by rw [he]; rfl, fun b o e => hk b o (bk b o e), by rw [he]; exact hn⟩
    have fin : ∀ (y : Bool) (t : Nat), y = LW.numB d i j → Q (.bool y) { s with heap := h₀, toks := t } := fun y t e => by
      rw [e]
      exact hQ _ ⟨h₀, t, rfl, hk⟩
    have ty2 : TyAt K u (.type (kindN d)) h₀ := ty.more hk
    have kv : env.kindOf "value" = some .local := by show env.scope.names.lookup _ = _; rw [hsc]; exact lv
    have kl : env.kindOf "least" = some .local := by show env.scope.names.lookup _ = _; rw [hsc]; exact ll
    have km : env.kindOf "most" = some .local := by show env.scope.names.lookup _ = _; rw [hsc]; exact lm
    have ki : env.kindOf "isinstance" = some .globalImplicit := by show env.scope.names.lookup _ = _; rw [hsc]; exact gi
    have kn : env.kindOf "int" = some .globalImplicit := by show env.scope.names.lookup _ = _; rw [hsc]; exact gn
    have kb : env.kindOf "bool" = some .globalImplicit := by show env.scope.names.lookup _ = _; rw [hsc]; exact gb
    rw [← he]
    show wpAny _ _ (execs (defBody st) env) _ _ _
    rw [hbody]
    refine wpAny_execs_cons (wpAny_Return_some ?_)
    show wpAny _ _ _ (fun v s' => Q v s') _ _
    have LT : ∀ tk, LEnv K mg base env (fun x => (List.zip [("value" : Str), "least", "most"] ([u, .int i ti, .int j tj] ++ [])).reverse.lookup x) { s with heap := h₀, toks := tk } := fun tk => L.tok tk
    refine BoolOp_and (low_isi (T := .int) (d := d) (b := (isD .int d).getD false) L ki kn N.b1 N.b2 (by decide +kernel) kv rfl ty2 (by cases d <;> first | rfl | cases nop) fun tk => ?_)
    refine wpAny_truthy_bool ?_
    cases hi : (isD .int d).getD false with
    | false =>
      refine ite_ff (fin false tk ?_)
      cases d <;> first | rfl | cases hi
    | true =>
      refine ite_tt ?_
      refine BoolOp_and (UnaryOp_ (low_isi (T := .bool) (d := d) (b := (isD .bool d).getD false) (LT tk) ki kb N.b1 N.b3 (by decide +kernel) kv rfl ty2 (by cases d <;> first | rfl | cases nop) fun tk => ?_))
      refine not_of (wpAny_truthy_bool (wpAny_truthy_bool ?_))
      cases hb : (isD .bool d).getD false with
      | true =>
        refine ite_ff (fin false tk ?_)
        cases d <;> first | rfl | cases hb
      | false =>
        refine ite_tt (BoolOp_one ?_)
        obtain ⟨n, rfl⟩ : ∃ n, d = .int n := by
          cases d with
          | int n => exact ⟨n, rfl⟩
          | bl _ => cases hb
          | _ => cases hi
        obtain ⟨t, rfl⟩ := hint n rfl
        refine Compare_chain (low_loc (LT tk) kl rfl ?_) (by with_unfolding_all rfl)
        refine chain_link (low_loc (LT tk) kv rfl (le_int (wpAny_truthy_bool ?_)))
        by_cases h1 : i ≤ n
        · rw [decide_eq_true h1]
          refine ite_tt (chain_last (low_loc (LT tk) km rfl (le_int ?_)))
          refine fin _ tk ?_
          show _ = (decide (i ≤ n) && decide (n ≤ j))
          rw [decide_eq_true h1, Bool.true_and]
        · rw [decide_eq_false h1]
          refine ite_ff (fin false tk ?_)
          show _ = (decide (i ≤ n) && decide (n ≤ j))
          rw [decide_eq_false h1, Bool.false_and]
end
/-- an int that needs nothing of the state -/
def ArgI (P : Program) (w : World) (K : PySem.W.Frag) (mg : Str → Option Value) (base : Heap) (scope : Scope) (e : Expr) (i : Int) : Prop :=
  ∀ (env : Env) (m : Str → Option Value) (s : Shared) (A : Around) (E Q : Value → Shared → Prop), env.scope = scope → LEnv K mg base env m s → (∀ t tk, Q (.int i t) { s with toks := tk }) → wpAny (model P w) A (eval e env) Q E s
theorem argI_int {P : Program} {w : World} {K : PySem.W.Frag} {mg : Str → Option Value} {base : Heap} {scope : Scope} {i : Int} {j : Nat} {pos : Pos} : ArgI P w K mg base scope (.Constant (.int i) j pos) i :=
  fun env m s A E Q _ _ h => wpAny_Constant_int (h _ _)
theorem argI_glob {P : Program} {w : World} {K : PySem.W.Frag} {mg : Str → Option Value} {base : Heap} {scope : Scope} {i : Int} {x : Str} {pos : Pos} (hm : ∃ t, mg x = some (.int i t)) (hl : scope.names.lookup x = some .globalImplicit) (hd : (x == ("__debug__" : Str)) = false := by decide) : ArgI P w K mg base scope (.Name x pos) i :=
  fun env m s A E Q e L h => by
    obtain ⟨t, hm⟩ := hm
    exact low_glob L (by show env.scope.names.lookup x = _; rw [e]; exact hl) hm (h t s.toks) hd
/-- the test at place k -/
def trN (ds : List D) (i j : Int) (k : Nat) : Bool := match ds[k]? with
  | some d => LW.numB d i j
  | none => false
theorem all_trN (ds : List D) (i j : Int) : (List.range ds.length).all (trN ds i j) = ds.all fun d => LW.numB d i j := by
  rw [Bool.eq_iff_iff, List.all_eq_true, List.all_eq_true]
  constructor
  · intro h d hd
    obtain ⟨k, hk, e⟩ := List.getElem_of_mem hd
    have q := h k (List.mem_range.mpr hk)
    unfold trN at q
    rw [List.getElem?_eq_getElem hk, e] at q
    exact q
  · intro h k hk
    have hk := List.mem_range.mp hk
    unfold trN
    rw [List.getElem?_eq_getElem hk]
    exact h _ (List.getElem_mem hk)
end DL

set_option Elab.async false
set_option linter.all false
set_option maxRecDepth 100000
set_option maxHeartbeats 4000000
namespace DL
open PySem PySem.Spec PyProof.Rows L2 GxR
/-! ### all(is_number(x, a, b) for x in e), e a tuple -/
def tAllNV (K : PySem.W.Frag) (Pt : Addr) (i j : Int) (te : TE) : TE := fun σ H Q => te σ H fun v H1 => ∃ (ad : Addr) (xs : List V) (M : Addr → Prop) (ds : List D), v = .ref ad ∧ SqT K H1 ad xs ∧ RepL K M H1 xs ds ∧ (∀ d ∈ ds, isOp d = false) ∧ TabG H1 Pt ∧
  ∀ H2, Tabbed Pt H1 H2 → Q (.bl (ds.all fun d => LW.numB d i j)) H2
section
variable {X : Cx}
theorem pe_allN {c Pt fN : Addr} {ea eb iter : Expr} {x : Str} {i j : Int} {px p q1 q2 q3 pos gpos : Pos} {scope : Scope} {te : TE} {k : Nat}
    (hr : Room k X.A) (hg : Gl X "all") (hm : X.mg "all" = none) (TB : TabB X.base X.mg c Pt) (hcode : X.env.code = .ref c) (S : GenS X.env scope x) (hN : NumDef X.K X.mg fN)
    (hgn : scope.names.lookup ("is_number" : Str) = some .globalImplicit) (hEa : ArgI X.prog X.w X.K X.mg X.base scope ea i) (hEb : ArgI X.prog X.w X.K X.mg X.base scope eb j) (hi : PE X iter te) (hs : ∀ v, genFold iter X.env v = pure v)
    (hxd : (x == ("__debug__" : Str)) = false) (ht3 : ∀ env, backTo q3 (starEach [ea, eb] env) = [(false, eval ea env), (false, eval eb env)])
    (he : starEach [.GeneratorExp (.Call (.Name "is_number" q1) [.Name x q2, ea, eb] [] q3) [⟨.Name x px, iter, [], 0⟩] scope gpos] X.env = (false, eval (.GeneratorExp (.Call (.Name "is_number" q1) [.Name x q2, ea, eb] [] q3) [⟨.Name x px, iter, [], 0⟩] scope gpos) X.env) :: starEach [] X.env := by rfl) :
    PE X (.Call (.Name "all" p) [.GeneratorExp (.Call (.Name "is_number" q1) [.Name x q2, ea, eb] [] q3) [⟨.Name x px, iter, [], 0⟩] scope gpos] [] pos) (tAllNV X.K Pt i j te) := by
  refine ⟨fun pins s σ H Q I h => ?_⟩
  refine wpAny_Call_Name_kw (ld_blt I hg hm (by decide +kernel : bootBuiltins "all" = some (.builtin "all")) ?_)
  refine PyProof.Rows.callWith_builtin1 ?_ he (by rfl)
  rw [he]
  show wpAny _ _ (spliced ((false, eval (.GeneratorExp (.Call (.Name "is_number" q1) [.Name x q2, ea, eb] [] q3) [⟨.Name x px, iter, [], 0⟩] scope gpos) X.env) :: backTo pos (starEach [] X.env))) _ _ s
  refine Calls.spliced_cons ?_
  refine wpAny_GeneratorExp_walksQD hr.hd S.co (closure_ok S.free) S.cell S.dot S.loc S.kind (by have := hr.dp; omega) ?_ hs
  refine thn (hi.run pins s σ H _ I h) fun xv s1 ⟨v, H1, I1, r1, q1⟩ => ?_
  obtain ⟨ad, xs, M, ds, rfl, hx, rl, nop, ⟨ps, hP, htr⟩, fin⟩ := q1
  cases (show xv = Value.ref ad from r1)
  obtain ⟨us, vu, pl, _⟩ := I1.tuple hx
  have hlen : us.length = ds.length := by rw [← vu.length, rl.length]
  refine wpAny_pyIter_tuple (show s1.heap.IsTuple ad us.toArray from pl) ?_
  generalize ho : ({ cls := .type "tuple_iterator", data := .fields #[.ref ad, .int 0 0] } : Obj) = o
  have hPs : s1.heap.get? Pt = some { cls := .none, data := .fields ps } := I1.hok Pt _ hP
  have hPlt : Pt < s1.heap.objs.size := Heap.lt_size hPs
  have hadlt : ad < s1.heap.objs.size := let ⟨_, e, _⟩ := pl; Heap.lt_size e
  have hadP : ad ≠ Pt := fun e => by
    obtain ⟨o, e1, _, _, e2⟩ := pl
    rw [e, hPs] at e1
    cases e1
    cases e2
  have hP2 : (s1.heap.push o).get? Pt = some { cls := .none, data := .fields ps } := Heap.get?_push_of_some _ hPs
  have cd : PySem.W.CodeHd (s1.heap.push o) c Pt := TB.code.keeps fun b u e => Heap.get?_push_of_some _ (I1.bk b u e)
  have lim2 : (s1.heap.push o).NoLimit := I1.nolimit.push o
  have gc : wpAny (model X.prog X.w) X.A (genexprCode X.env gpos (X.env.qual ++ "<genexpr>") scope) (fun code s3 => ∃ (h3 : Heap) (tk : Nat) (ps' : Array Value), s3 = { s1 with heap := h3, toks := tk } ∧ Heap.ExtBut Pt (s1.heap.push o) h3 ∧ (s1.heap.push o).objs.size ≤ h3.objs.size ∧
      h3.get? Pt = some { cls := .none, data := .fields ps' } ∧ (∃ more, ps' = ps ++ more) ∧ TriplesOk ps'.toList) X.xe { s1 with heap := s1.heap.push o } := by
    cases hf : codeAmong gpos ps.toList with
    | none =>
      refine wpAny_genexprCodeX hcode (cd.code hP2 htr) (cd.tab hP2) hf fun c' h' tk hx hge hlt hco' _ htab' _ => ?_
      obtain ⟨o1, vs, f1, tf, fl, tg, inF, tx, tt, op, _, _, _, _, _, _, _, _, _, htr2, _⟩ := hco'
      exact ⟨h', tk, _, rfl, hx, Nat.le_trans hge (Nat.le_of_lt hlt), htab'.2, ⟨_, rfl⟩, htr2⟩
    | some cv =>
      exact wpAny_genexprCode_hit hcode (cd.code hP2 htr) hf ⟨s1.heap.push o, s1.toks, ps, rfl, Heap.ExtBut.refl _ _, Nat.le_refl _, hP2, ⟨#[], by simp⟩, htr⟩
  refine ⟨lim2, wpAny_mono gc (fun code s3 h3 => ?_) fun _ _ e => e⟩
  obtain ⟨h3, tk, ps', rfl, hx3, hsz, hP3, ⟨more, em⟩, ht3'⟩ := h3
  obtain ⟨bm, ob, e1, e2, e3, e4, e5, e6, e7, e8⟩ := TB.bm
  have hcP : cStatics ≠ Pt := fun e => by
    obtain ⟨_, hns, _⟩ := I1.nolimit
    obtain ⟨o', es, ep, ho, hd, _⟩ := hns
    rw [e, hPs] at ho
    cases ho
    cases hd
  have hcl : cStatics < s1.heap.objs.size := let ⟨_, hns, _⟩ := I1.nolimit; hns.lt
  have sz2 : (s1.heap.push o).objs.size = s1.heap.objs.size + 1 := Heap.size_push ..
  have keep3 : ∀ b u, b ≠ Pt → s1.heap.get? b = some u → h3.get? b = some u := fun b u hb e => hx3 b u hb (Heap.get?_push_of_some _ e)
  have hbase : ∀ b u, X.base.get? b = some u → s1.heap.get? b = some u ∧ b ≠ Pt := fun b u e => ⟨I1.bk b u e, fun z => by
    have := (I1.bs b u e).2
    rw [z, hP] at this
    cases this⟩
  refine wpAny_builtinsFor (m := X.mg) (by rw [I1.ok.glob]; exact ((I1.mod.glob.keeps I1.bk).push o).extBut hx3 TB.gP) e1 e2 (keep3 _ _ e4 (I1.bk _ _ e5)) e6 e7 e8 ?_
  have hI : h3.get? s1.heap.objs.size = some o := hx3 _ _ (fun z => Nat.lt_irrefl _ (z ▸ hPlt)) (Heap.get?_push_size _ (by rw [← ho]; rfl))
  refine ⟨s1.heap.objs.size, [s1.heap.objs.size, ad], [s1.heap.objs.size], us.toArray.size, _, _, (fun _ => true), (fun k y => y = .bool (trN ds i j k)), rfl, (fun A' hA => Walks.tuple hA s1.heap.objs.size ad (Nat.ne_of_lt hadlt) us.toArray), ?_, ?_, lim2.extBut hx3 hcP, ?_, ?_, ?_⟩
  · refine ⟨⟨o, hI, by rw [← ho], by rw [← ho]; rfl⟩, ?_⟩
    obtain ⟨o', g1, g2⟩ := pl
    exact ⟨o', keep3 _ _ hadP g1, g2⟩
  · intro b hb
    rcases List.mem_cons.mp hb with z | z
    · rw [z]
      show s1.heap.objs.size < h3.objs.size
      omega
    · rcases List.mem_cons.mp z with z | z
      · rw [z]
        exact Nat.lt_trans hadlt (by show s1.heap.objs.size < h3.objs.size; omega)
      · cases z
  · intro z
    rcases List.mem_cons.mp z with z | z
    · exact Nat.ne_of_lt hcl z
    · cases z
  · intro href hhref
    refine ⟨fun A' E' n v s₂ m₂ hA _ _ hPv hn hm hk => ?_, fun A' E' n v s₂ m₂ hA hD hU hPv hp hn hm hk => ?_⟩
    · simp only [List.forIn_nil]
      exact wpAny_pure ⟨rfl, keeps_refl _⟩
    · obtain ⟨cenv, hce⟩ : ∃ cenv, cenv = genEnv scope (cloFrom X.env.cells scope.names []) h3.objs.size code builtinsNs X.env := ⟨_, rfl⟩
      have hkk : ∀ b u, b ≠ Pt → s1.heap.get? b = some u → s₂.heap.get? b = some u := fun b u hb e => by
        have hl := Heap.lt_size e
        refine hk b (List.mem_range.mpr (Nat.lt_of_lt_of_le hl (by show _ ≤ h3.objs.size; omega))) (fun z => ?_) u (hhref b u (keep3 b u hb e))
        rcases List.mem_cons.mp z with z | z
        · rw [z] at hl
          exact Nat.lt_irrefl _ hl
        · cases z
      have L : LEnv X.K X.mg X.base cenv m₂ s₂ := ⟨I1.ok.mod, by rw [hce]; exact S.kind, by rw [hce]; exact I1.ok.glob, by rw [hce]; rfl, fun b u e => hkk b u (hbase b u e).2 (hbase b u e).1, by rw [hce]; exact hn⟩
      have hsc : cenv.scope = scope := by rw [hce]; rfl
      have kx : cenv.kindOf x = some .local := by show cenv.scope.names.lookup x = _; rw [hsc]; exact S.loc
      have kn : cenv.kindOf "is_number" = some .globalImplicit := by show cenv.scope.names.lookup _ = _; rw [hsc]; exact hgn
      have hPv : us[n]? = some v := by simpa using hPv
      have hnl : n < us.length := (List.getElem?_eq_some_iff.mp hPv).1
      obtain ⟨d, hd⟩ : ∃ d, ds[n]? = some d := ⟨_, List.getElem?_eq_getElem (by omega)⟩
      obtain ⟨xv, hxv, rep⟩ := rl.get hd
      obtain ⟨v', hv', rv⟩ := vu.get hxv
      rw [hPv] at hv'
      cases hv'
      have nopd := nop d (List.mem_of_getElem? hd)
      have etr : trN ds i j n = LW.numB d i j := by
        unfold trN
        rw [hd]
      have ty : TyAt X.K v (.type (kindN d)) s₂.heap := tyAt_of L.kin I1.hok (fun b u e nf => hkk b u (fun z => by rw [z, hPs] at e; cases e; exact nf _ rfl) e) rep nopd rv
      have hint : ∀ m, d = .int m → ∃ t, v = .int m t := fun m e => by
        subst e
        cases rep
        exact rv
      rw [← hce, etr]
      refine wpAny_Call_Name_kw (low_glob L kn hN.hm ?_)
      refine PySem.W.callWith_K (h₀ := X.base) I1.ok.mod.kin hN.kp ?_ rfl (by rw [ht3]; rfl)
      show wpAny _ _ (spliced ((false, eval (.Name x q2) cenv) :: backTo q3 (starEach [ea, eb] cenv))) _ _ _
      rw [ht3]
      refine Calls.spliced_cons (low_loc L kx hm ?_ hxd)
      refine Calls.spliced_cons (hEa cenv m₂ s₂ A' E' _ hsc L fun t tk1 => ?_)
      refine Calls.spliced_cons (hEb cenv m₂ _ A' E' _ hsc (L.tok tk1) fun t' tk2 => ?_)
      refine Calls.spliced_nil ⟨L.kin, ?_⟩
      show wpAny _ A' (call (.ref fN) [v, .int i t, .int j t']) _ _ _
      refine low_num (A := A') (s := { s₂ with toks := tk2 }) (i := i) (j := j) (d := d) (Q := fun y s₃ => (y = Value.bool (LW.numB d i j)) ∧ Keeps s₂ s₃) hN I1.ok.mod L.bk (by have := hr.dp; omega) ty nopd hint fun s' ks => ⟨rfl, ?_⟩
      obtain ⟨h', tk', rfl, hk'⟩ := ks
      exact ⟨h', tk', rfl, hk'⟩
  · intro g h5 tk5 gs hgb hag hsz5 hk5 W5 hat
    simp only [GxR.passing_true, List.length_range] at W5
    have W := W5.in4_1
    have nwr : ∀ b u, s1.heap.get? b = some u → b ∉ h3.objs.size :: [s1.heap.objs.size] := fun b u e hb => by
      have hl := Heap.lt_size e
      rcases List.mem_cons.mp hb with z | z
      · rw [z] at hl
        have h9 : (h3.objs.size : Nat) < s1.heap.objs.size := hl
        omega
      · rcases List.mem_cons.mp z with z | z
        · rw [z] at hl
          exact Nat.lt_irrefl _ hl
        · cases z
    refine Calls.spliced_nil ?_
    refine call_all_walkS (W.self 0 _ _ _ hat ⟨g, _, _, _, _, _, _, trN ds i j, rfl, W, hat, ?_, fun s' hmv => ?_⟩)
    · intro n y sj Qj Ej hy hQj
      obtain ⟨m, hm, rfl⟩ := hy
      obtain ⟨hj, ej⟩ := List.getElem?_eq_some_iff.mp hm
      rw [List.getElem_range] at ej
      subst ej
      exact wpAny_truthy_bool hQj
    · have J := inv_tab (more := more) (h' := s'.heap) (g' := s'.gens) (d' := s'.drawn) (t' := s'.toks) I1 hP (fun b u hb e => hmv.heap b u (nwr b u e) (hk5 b u (keep3 b u hb e)))
        (by rw [← em]; exact hmv.heap Pt _ (nwr Pt _ hPs) (hk5 Pt _ hP3)) (AllBare.movedS (I1.bare.push hgb) hmv)
      rw [sh_eta s1 s' hmv.os] at J
      refine ⟨.bl _, upd H1 Pt (.tbl (ps ++ more)), J, rfl, ?_⟩
      have e2 : us.toArray.size = ds.length := by simpa using hlen
      rw [e2, all_trN]
      exact fin _ ⟨⟨ps ++ more, upd_same, by rw [← em]; exact ht3'⟩, fun b hb => upd_ne hb⟩
end
end DL

set_option Elab.async false
set_option linter.all false
set_option maxRecDepth 100000
set_option maxHeartbeats 4000000
namespace DL
open PySem PySem.Spec PyProof.Rows L2
/-- all(is_number(x, a, b) for x in e) over data -/
def tAllN (i j : Int) (ti : ET) : ET := fun ρ q x => ti ρ (fun r ρ1 => some! (settle ρ1 r) fun z => match z.1 with
  | .tup ds => (ds.all fun d => !isOp d) = true ∧ q (.d (.bl (ds.all fun d => LW.numB d i j))) z.2
  | _ => False) x
theorem genS_of {env : Env} {scope : Scope} {x : Str} (k : scope.kind = .function) (co : scope.isCoroutine = false) (nc : ∀ y ∈ scope.names, y.2 ≠ .cell) (dot : scope.names.lookup (".0" : Str) = some NameKind.local) (loc : scope.names.lookup x = some .local) (nf : ∀ y ∈ scope.names, y.2 ≠ .free) : GxR.GenS env scope x :=
  ⟨k, co, nc, dot, loc, fun y hy e => absurd e (nf y hy)⟩
/-- the def's code object and its table -/
structure GTab (T : Addr → Prop) (base : Heap) (mg : Str → Option Value) (c Pt : Addr) : Prop where
  tab : GxR.TabB base mg c Pt
  mem : T Pt
section
variable {X : Cx} {p : Amb} {W : WX}
theorem de_allN {c Pt fN : Addr} {ea eb iter : Expr} {x : Str} {i j : Int} {px pp q1 q2 q3 pos gpos : Pos} {scope : Scope} {ti : ET} {k : Nat}
    (hr : Room k X.A) (hm : X.mg "all" = none) (TB : GTab p.tb X.base X.mg c Pt) (hN : NumDef X.K X.mg fN) (hi : DE X p W iter ti) (hEa : ArgI X.prog X.w X.K X.mg X.base scope ea i) (hEb : ArgI X.prog X.w X.K X.mg X.base scope eb j) (S : GxR.GenS X.env scope x)
    (hgn : scope.names.lookup ("is_number" : Str) = some .globalImplicit) (hcode : X.env.code = .ref c := by rfl) (hg : Gl X "all" := by rfl) (hs : ∀ v, genFold iter X.env v = pure v := by intro _; rfl)
    (hxd : (x == ("__debug__" : Str)) = false := by decide) (ht3 : ∀ env, backTo q3 (starEach [ea, eb] env) = [(false, eval ea env), (false, eval eb env)] := by intro _; rfl)
    (he : starEach [.GeneratorExp (.Call (.Name "is_number" q1) [.Name x q2, ea, eb] [] q3) [⟨.Name x px, iter, [], 0⟩] scope gpos] X.env = (false, eval (.GeneratorExp (.Call (.Name "is_number" q1) [.Name x q2, ea, eb] [] q3) [⟨.Name x px, iter, [], 0⟩] scope gpos) X.env) :: starEach [] X.env := by rfl) :
    DE X p W (.Call (.Name "all" pp) [.GeneratorExp (.Call (.Name "is_number" q1) [.Name x q2, ea, eb] [] q3) [⟨.Name x px, iter, [], 0⟩] scope gpos] [] pos) (tAllN i j ti) :=
  ⟨PE.imp (pe_allN hr hg hm TB.tab hcode S hN hgn hEa hEb hi.pe hs hxd ht3 he) fun σ H Q ⟨M, ρ, q, xq, S0, ht, hq, hx⟩ => by
    refine ⟨M, ρ, _, _, S0, ht, fun v M1 H1 ρ1 r P1 S1 R1 h1 => ?_, hx⟩
    obtain ⟨⟨d, ρ2⟩, e1, h2⟩ := some!_ok h1
    obtain ⟨M2, P2, S2, R2⟩ := settleN_ok S0 P1 R1 e1
    cases d with
    | tup ds =>
      obtain ⟨nop, h3⟩ := h2
      have R2 : Rep X.K M2 H1 v (.tup ds) := R2
      cases R2 with
      | @tup ad xs _ s rl =>
        refine ⟨ad, xs, M2, ds, rfl, s.sq, rl, fun d hd => by simpa using List.all_eq_true.mp nop d hd, P2.sim.tabs _ TB.mem, fun H2 ⟨tg, oth⟩ => ?_⟩
        obtain ⟨ps0, e0, t0⟩ := P2.sim.tabs _ TB.mem
        have st : Step M2 Nil H1 M2 H2 := ⟨fun a o e _ nt => by
            by_cases ha : a = Pt
            · rw [ha, e0] at e
              cases e
              exact absurd rfl (nt ps0)
            · rw [oth a ha]
              exact e, fun a h => .inl h, fun a h _ => h, fun a h => by
            by_cases ha : a = Pt
            · obtain ⟨ps, e, _⟩ := tg
              rw [ha, e]
              exact fun z => nomatch z
            · rw [oth a ha]
              exact h, fun a ⟨ps, e, t⟩ => by
            by_cases ha : a = Pt
            · rw [ha]
              exact tg
            · exact ⟨ps, by rw [oth a ha]; exact e, t⟩⟩
        have P3 := P2.sim.post st fun a h => st.dom a (P2.sim.mok a h)
        exact hq (.bl _) M2 H2 ρ2 _ (P2.trans S0 P3) trivial (RVok.dd (.bl _)) h3
    | _ => exact h2.elim⟩
end
theorem tAllN_ {i j : Int} {ti : ET} {ρ : Ev} {q : EK} {x : XQ} : tAllN i j ti ρ q x = ti ρ (fun r ρ1 => some! (settle ρ1 r) fun z => some! (match z.1 with | .tup ds => some ds | _ => none) fun ds => (ds.all fun d => !isOp d) = true ∧ q (.d (.bl (ds.all fun d => LW.numB d i j))) z.2) x := by
  unfold tAllN
  congr 1
  funext r ρ1
  congr 1
  funext z
  obtain ⟨z1, z2⟩ := z
  cases z1 <;> rfl
section
variable {P : Program} {w : World} {K : PySem.W.Frag} {mg : Str → Option Value} {base : Heap}
theorem fn_okG {T : Addr → Prop} {c : Addr} {x qual : Str} {st : Stmt} {f : Addr} {fd : FuncData} {N ps : List Str} {k : Nat} {sp : PSp} {t : ST} (F : Fun K x qual st f fd) (hc : fd.code = .ref c) (S : FnScope N ps (defScope st)) (len : ∀ ds q x, sp ds q x → ds.length = ps.length)
    (hbody : ∀ (cdv : Value) (A : Around) (outer : List Env) (s : Shared) (H : Hp) (E : XK), cdv = .ref c → Room k (A.deeper (envOfC qual (defScope st) s.heap.objs.size f cdv)) →
      DSs (cxOf (L2N.CX P w) P w K mg base N qual (defScope st) f cdv A outer s H E) ⟨none, T⟩ (fun c d _ H => E c d H) (defBody st) t)
    (hsp : ∀ ds q x, sp ds q x → t ⟨fun _ => q (.d .non), fun r _ => q r, fun _ => False, fun _ => False, fun c _ => x c⟩ (startE N ds)) : FnOk P w K mg base (L2N.CX P w) (k + 1) f fd ps (liftSp K T sp) := by
  obtain ⟨oc, od, kV, doc, pm, an, cdv, ct, osl, rfl, lk, hcd⟩ := F.ex
  have hc : cdv = .ref c := hc
  have F2 : Fun K x qual st f (PySem.W.fnOf x qual (defArgs st) (defBody st) (defScope st) .none kV doc pm an cdv ct) := F
  refine fn_of lk hcd S (fun vs H Q E ⟨_, M, ds, q, x, mok, r, h, _⟩ => r.length.trans (len ds q x h)) fun A outer s H vs Q E hr ⟨ht, M, ds, q, x, mok, r, h, k1, k2⟩ => ?_
  refine ⟨_, (hbody cdv A outer s H E hc hr).pss, ?_⟩
  obtain ⟨S0, nw⟩ := start_sim (N := N) ht mok r
  have st0 : ∀ {M' : Addr → Prop} {H' : Hp}, Step M (Wr (L2.start N vs) (startE N ds)) H M' H' → Step M Nil H M' H' := fun s => s.weak fun a z => nw a z
  refine ⟨M, startE N ds, _, S0, hsp ds q x h, ⟨fun M' σ' H' ρ' P' h' => k1 .non M' H' (.d .non) ⟨st0 P'.step, P'.sim.mok, Rep.non⟩ h', fun _ _ _ _ _ z => z.elim, fun _ _ _ _ _ z => z.elim, fun v M' σ' H' ρ' r' P' R' h' => k1 v M' H' r' ⟨st0 P'.step, P'.sim.mok, ?_⟩ h', fun c M' σ' H' ρ' P' h' => k2 c M' H' (st0 P'.step) P'.sim.mok h'⟩⟩
  cases r' with
  | d y => exact R'
  | n y =>
    obtain ⟨a, e, m, o, z, _⟩ := R'
    exact ⟨a, e, z.elim id fun z => (nw a z).elim, m, o⟩
  | o _ => exact R'
end
theorem tabIn_code {K : PySem.W.Frag} {x : Str} {f c Pt : Addr} {oc : Value} {od : Option Addr} {fd : FuncData} {sl : Array (Option Value)} (a : PySem.W.nsIn K mainGlobals x = some (some (.ref f))) (l : K.lookup f = some ⟨oc, od, .func fd, sl⟩) (t : PySem.W.tabIn K x = some (c, Pt)) : fd.code = .ref c := by
  unfold PySem.W.tabIn at t
  rw [a] at t
  simp only at t
  rw [l] at t
  simp only at t
  split at t
  · rename_i c' hc
    split at t
    · split at t
      · cases t
        exact hc
      · cases t
    · cases t
  · cases t
/-! ### the end -/
/-- the tables of the defs in the list, as the head leaves them -/
def HeadTabs (q : Program) (K : PySem.W.Frag) (h : Heap) : Prop := ∀ (x : Str) (c Pt : Addr), ((recsOf q).find? fun e => e.name == x).isSome = true → PySem.W.tabIn K x = some (c, Pt) → PySem.W.CodeHd h c Pt ∧ h.get? Pt = some { cls := .none, data := .fields #[] }
theorem walk_ofG {l : PySem.W.OpenLaw} {n k : Nat} {q : Program} {loose : List Str} {XP : (Str → Option Value) → Heap → Prop} {YP : World → Heap → Prop} {d : DefRec} {K : Params → PySem.W.Frag} {CX : World → CXT} {x : Str}
    (hn : l.most = some n) (hn2 : n ≤ sizeLine) (hdf : d.params.defaults = []) (hr : Room k callerA) (hY : ∀ (w : World) (h : Heap), YP w h → (K w.params).In h)
    (F : ∀ (w : World) (mg : Str → Option Value) (fa : Addr) (h : Heap), (K w.params).In h → h.Ns mainGlobals mg → mg d.name = some (.ref fa) → HeadTabs q (K w.params) h → LamX.LawAtS l w (K w.params) (CX w) k n x mg fa h)
    (hCX : ∀ (w : World) (H : Hp) (s : Shared) (e : Value) (s' : Shared), CX w [] H s (fun _ _ _ => False) e s' → False) :
    PySem.W.WalkO q loose XP YP l.row.toRowW d [] (fun f vs => PySem.call f vs) := by
  refine Att.attach_callB hn hdf fun w s₀ s₁ mg mb fa o pm cd doc a vs ns G Y ho hd hcd hmg hobj hints hlen hbits hg => ?_
  have KX := hY w _ Y
  obtain ⟨fd, cs, sp, hT, nT, C, hb, hsp, hF⟩ := F w mg fa _ KX G.T.g hmg fun x c Pt hx ht => by
    obtain ⟨e, he⟩ := Option.isSome_iff_exists.mp hx
    exact PySem.W.tab_of G.T KX he ht
  exact LamX.law_callTs KX G.T.g G.T.b G.T.builtins G.T.nolimit hg hT nT C G.T.bmain hobj hints (Nat.le_trans hlen hn2) hr hF hb (fun H hH hS => hsp H a ns hlen hbits hH hS) fun H e s' => hCX w H s₁ e s'
theorem tabG_0 {H : Hp} {Pt : Addr} (h : H Pt = some (.tbl #[])) : GxR.TabG H Pt := ⟨#[], h, True.intro⟩
end DL

set_option Elab.async false
set_option linter.all false
set_option maxRecDepth 100000
set_option maxHeartbeats 4000000
namespace LW
open PySem PySem.Spec PyProof.Rows L2 DL
/-! _law_alike at any depth -/
def okA : Nat → D → Prop
  | 0, v => scal v = true ∧ shD v
  | n + 1, v => okA n v ∨ ∃ vs, (v = .lst vs ∨ v = .tup vs) ∧ vs.length ≤ 1000 ∧ ∀ u ∈ vs, okA n u
theorem okA_up {v : D} {n : Nat} (h : okA n v) : okA (n + 1) v := .inl h
theorem okA_0 {v : D} (h : scal v = true ∧ shD v) : ∀ n, okA n v
  | 0 => h
  | n + 1 => .inl (okA_0 h n)
theorem okA_i {i : Int} {n : Nat} : okA n (.int i) := okA_0 (v := .int i) ⟨rfl, rfl⟩ n
theorem okA_b {i : Bool} {n : Nat} : okA n (.bl i) := okA_0 (v := .bl i) ⟨rfl, rfl⟩ n
theorem okA_n {n : Nat} : okA n .non := okA_0 (v := .non) ⟨rfl, rfl⟩ n
theorem okA_s {x : Str} {n : Nat} (h : shD (.str x)) : okA n (.str x) := okA_0 ⟨rfl, h⟩ n
theorem okA_lst {vs : List D} {n : Nat} (hl : vs.length ≤ 1000) (h : ∀ u ∈ vs, okA n u) : okA (n + 1) (.lst vs) := .inr ⟨vs, .inl rfl, hl, h⟩
theorem okA_tup {vs : List D} {n : Nat} (hl : vs.length ≤ 1000) (h : ∀ u ∈ vs, okA n u) : okA (n + 1) (.tup vs) := .inr ⟨vs, .inr rfl, hl, h⟩
theorem okL_nil {n : Nat} : ∀ u ∈ ([] : List D), okA n u := fun _ h => nomatch h
theorem okL_cons {n : Nat} {a : D} {l : List D} (h : okA n a) (t : ∀ u ∈ l, okA n u) : ∀ u ∈ a :: l, okA n u := fun u hu => by
  rcases List.mem_cons.mp hu with rfl | hu
  · exact h
  · exact t u hu
def sp_alikeN (n : Nat) : PSp := fun ds q _ => ∃ v, ds = [v, v] ∧ okA n v ∧ q (.d (.bl true))
theorem alikeN0_ok (sp ds q x) (h : sp_alikeN 0 ds q x) : T__law_alike sp (SEr q x) (startE ["found", "due", "k"] ds) := by
  obtain ⟨v, rfl, ⟨a, b⟩, h⟩ := h
  exact alike0_ok sp _ q x ⟨v, rfl, a, b, h⟩
theorem eq_nil : eqD (.lst []) (.lst []) = true := by
  unfold eqD pyD pyDs
  simp [PyData.eqv, PyData.eqvAll]
theorem alikeN_ok (n : Nat) : ∀ (m : Nat), m ≤ n + 1 → ∀ (ds q x) (h : sp_alikeN m ds q x), T__law_alike (sp_alikeN n) (SEr q x) (startE ["found", "due", "k"] ds)
  | 0, _, ds, q, x, h => alikeN0_ok _ ds q x h
  | m + 1, hm, ds, q, x, h => by
    obtain ⟨v, rfl, h0 | ⟨vs, hv, hl, hv2⟩, h⟩ := h
    · exact alikeN_ok n m (by omega) _ q x ⟨v, rfl, h0, h⟩
    have up : ∀ k, m + k = n → ∀ u ∈ vs, okA n u := fun k hk => by
      subst hk
      induction k with
      | zero => exact hv2
      | succ k ih => exact fun u hu => okA_up (ih (by omega) u hu)
    have hv2 := up (n - m) (by omega)
    have e2 : (2 : Int) ^ 62 = 4611686018427387904 := by decide
    rcases hv with rfl | rfl
    all_goals
      unfold T__law_alike
      walk_at "dl"
      refine ⟨by omega, by omega, ?_⟩
    · refine ⟨rfl, fun i acc ρ => acc = [] ∧ ρ = [.va (.lst vs), .va (.lst vs), .no], ⟨rfl, rfl⟩, fun i d acc ρ hd hP => ?_, fun acc ρ hP => ?_⟩
      · obtain ⟨rfl, rfl⟩ := hP
        obtain ⟨hi, rfl⟩ := rng_get hd
        have hi : i < vs.length := by omega
        have g := List.getElem?_eq_getElem hi
        rw [show (0 : Int) + (i : Int) = (i : Int) by omega]
        (walk_at "dl"; repeat (simp only [atI_at (n := i) rfl g]; walk_at "dl"))
        refine ⟨_, rfl, hv2 _ (List.getElem_mem hi), ?_⟩
        walk_at "dl"
        rfl
      · obtain ⟨rfl, rfl⟩ := hP
        walk_at "dl"
        refine ⟨sh_nil, sh_nil, ?_⟩
        rw [eq_nil]
        exact h
    · refine ⟨rfl, fun i acc ρ => acc = [] ∧ ρ = [.va (.tup vs), .va (.tup vs), .no], ⟨rfl, rfl⟩, fun i d acc ρ hd hP => ?_, fun acc ρ hP => ?_⟩
      · obtain ⟨rfl, rfl⟩ := hP
        obtain ⟨hi, rfl⟩ := rng_get hd
        have hi : i < vs.length := by omega
        have g := List.getElem?_eq_getElem hi
        rw [show (0 : Int) + (i : Int) = (i : Int) by omega]
        (walk_at "dl"; repeat (simp only [atI_at (n := i) rfl g]; walk_at "dl"))
        refine ⟨_, rfl, hv2 _ (List.getElem_mem hi), ?_⟩
        walk_at "dl"
        rfl
      · obtain ⟨rfl, rfl⟩ := hP
        walk_at "dl"
        refine ⟨sh_nil, sh_nil, ?_⟩
        rw [eq_nil]
        exact h
end LW

set_option Elab.async false
set_option linter.all false
set_option maxRecDepth 100000
set_option maxHeartbeats 4000000
namespace K88
open PySem PySem.Spec PyProof.Rows L2 DL
/-! ### balloons: the mathematics -/
def stp (p x : Nat) : Nat := x - (x + p - 1) / p
theorem stp_lt {p x : Nat} (hp : 1 ≤ p) (hx : 0 < x) : stp p x < x := by
  unfold stp
  have : 1 ≤ (x + p - 1) / p := by
    rw [Nat.le_div_iff_mul_le (by omega)]
    omega
  omega
theorem stp_0 {p : Nat} : stp p 0 = 0 := Nat.zero_sub _
theorem ceil_le {p x : Nat} (hp : 1 ≤ p) : (x + p - 1) / p ≤ x := by
  have h : (x + p - 1) / p < x + 1 := by
    rw [Nat.div_lt_iff_lt_mul (by omega)]
    have : x * 1 ≤ x * p := Nat.mul_le_mul_left x hp
    rw [Nat.add_mul]
    omega
  omega
/-- the floor form: what stays -/
theorem stp_eq {p x : Nat} (hp : 1 ≤ p) : stp p x = x * (p - 1) / p := by
  unfold stp
  obtain ⟨q, rfl⟩ : ∃ q, p = q + 1 := ⟨p - 1, by omega⟩
  rw [Nat.add_sub_cancel, show x + (q + 1) - 1 = x + q by omega]
  have h1 := Nat.div_add_mod (x + q) (q + 1)
  have h2 := Nat.mod_lt (x + q) (show 0 < q + 1 by omega)
  generalize hc : (x + q) / (q + 1) = c at *
  generalize hr : (x + q) % (q + 1) = r at *
  have hcx : c ≤ x := by
    have := ceil_le (p := q + 1) (x := x) (by omega)
    rw [show x + (q + 1) - 1 = x + q by omega, hc] at this
    exact this
  symm
  rw [Nat.div_eq_iff (by omega)]
  have e1 : (q + 1) * c = q * c + c := by rw [Nat.add_mul, Nat.one_mul]
  have e2 : (x - c) * (q + 1) = x * q - c * q + (x - c) := by rw [Nat.mul_add, Nat.mul_one, Nat.sub_mul]
  have e3 : c * q ≤ x * q := Nat.mul_le_mul_right q hcx
  have e4 : q * c = c * q := Nat.mul_comm _ _
  omega
theorem stp_mono {p x y : Nat} (hp : 1 ≤ p) (h : x ≤ y) : stp p x ≤ stp p y := by
  rw [stp_eq hp, stp_eq hp]
  exact Nat.div_le_div_right (Nat.mul_le_mul_right _ h)
theorem stp_part {p q x : Nat} (hp : 1 ≤ p) (h : p ≤ q) : stp p x ≤ stp q x := by
  unfold stp
  have : (x + q - 1) / q ≤ (x + p - 1) / p := by
    obtain ⟨a, rfl⟩ : ∃ a, p = a + 1 := ⟨p - 1, by omega⟩
    obtain ⟨b, rfl⟩ : ∃ b, q = b + 1 := ⟨q - 1, by omega⟩
    rw [show x + (b + 1) - 1 = x + b by omega, show x + (a + 1) - 1 = x + a by omega]
    generalize hc : (x + a) / (a + 1) = c
    have h1 := Nat.div_add_mod (x + a) (a + 1)
    have h2 := Nat.mod_lt (x + a) (show 0 < a + 1 by omega)
    rw [hc] at h1
    refine Nat.le_of_lt_succ ?_
    rw [Nat.div_lt_iff_lt_mul (by omega)]
    have e1 : (a + 1) * c = a * c + c := by rw [Nat.add_mul, Nat.one_mul]
    have e2 : (c + 1) * (b + 1) = c * b + c + b + 1 := by rw [Nat.add_mul, Nat.mul_add]; omega
    have e3 : a * c ≤ c * b := by rw [Nat.mul_comm]; exact Nat.mul_le_mul_left c (by omega)
    rw [Nat.succ_eq_add_one, e2]
    omega
  omega
/-- the gas behind i hours -/
def ga (p x : Nat) : Nat → Nat
  | 0 => x
  | i + 1 => stp p (ga p x i)
theorem ga_shift (p x : Nat) : ∀ i, ga p (stp p x) i = ga p x (i + 1)
  | 0 => rfl
  | i + 1 => by
    show stp p (ga p (stp p x) i) = stp p (ga p x (i + 1))
    rw [ga_shift p x i]
theorem ga_le {p q x y : Nat} (hp : 1 ≤ p) (hq : p ≤ q) (h : x ≤ y) : ∀ i, ga p x i ≤ ga q y i
  | 0 => h
  | i + 1 => Nat.le_trans (stp_mono hp (ga_le hp hq h i)) (stp_part hp hq)
def row (p x : Nat) : List Nat := if h : 0 < x ∧ 1 ≤ p then x :: row p (stp p x) else [x]
termination_by x
decreasing_by exact stp_lt h.2 h.1
theorem row_pos {p x : Nat} (hp : 1 ≤ p) (hx : 0 < x) : row p x = x :: row p (stp p x) := by
  rw [row, dif_pos ⟨hx, hp⟩]
theorem row_0 {p : Nat} : row p 0 = [0] := by
  rw [row, dif_neg (fun h => absurd h.1 (Nat.lt_irrefl 0))]
theorem row_get {p : Nat} (hp : 1 ≤ p) : ∀ (n x : Nat), x ≤ n → ∀ i v, (row p x)[i]? = some v → v = ga p x i ∧ (0 < i → v < ga p x (i - 1))
  | 0, x, h, i, v, e => by
    have : x = 0 := by omega
    subst this
    rw [row_0] at e
    cases i with
    | zero => cases e; exact ⟨rfl, fun z => absurd z (Nat.lt_irrefl 0)⟩
    | succ i => simp at e
  | n + 1, x, h, i, v, e => by
    by_cases hx : 0 < x
    · rw [row_pos hp hx] at e
      cases i with
      | zero => cases e; exact ⟨rfl, fun z => absurd z (Nat.lt_irrefl 0)⟩
      | succ i =>
        have hl := stp_lt hp hx
        have e : (row p (stp p x))[i]? = some v := by simpa using e
        obtain ⟨a, b⟩ := row_get hp n (stp p x) (by omega) i v e
        refine ⟨by rw [a, ga_shift], fun _ => ?_⟩
        cases i with
        | zero =>
          rw [a]
          exact hl
        | succ i =>
          have := b (by omega)
          rw [Nat.add_sub_cancel] at this
          rw [ga_shift] at this
          rw [Nat.add_sub_cancel]
          exact this
    · have : x = 0 := by omega
      subst this
      rw [row_0] at e
      cases i with
      | zero => cases e; exact ⟨rfl, fun z => absurd z (Nat.lt_irrefl 0)⟩
      | succ i => simp at e
theorem row_len {p : Nat} (hp : 1 ≤ p) : ∀ (n x : Nat), x ≤ n → 1 ≤ (row p x).length ∧ (row p x).length ≤ x + 1 ∧ ga p x ((row p x).length - 1) = 0
  | 0, x, h => by
    have : x = 0 := by omega
    subst this
    rw [row_0]
    exact ⟨Nat.le_refl 1, Nat.le_refl 1, rfl⟩
  | n + 1, x, h => by
    by_cases hx : 0 < x
    · have hl := stp_lt hp hx
      obtain ⟨a, b, c⟩ := row_len hp n (stp p x) (by omega)
      rw [row_pos hp hx, List.length_cons]
      refine ⟨by omega, by omega, ?_⟩
      rw [show (row p (stp p x)).length + 1 - 1 = ((row p (stp p x)).length - 1) + 1 by omega, ← ga_shift]
      exact c
    · have : x = 0 := by omega
      subst this
      rw [row_0]
      exact ⟨Nat.le_refl 1, Nat.le_refl 1, rfl⟩
/-- the hours with too little gas -/
def low (p x w : Nat) : List Nat := (List.range (row p x).length).filter fun h => decide (ga p x h < w)
theorem low_head {p x w h : Nat} (e : (low p x w).head? = some h) : ga p x h < w ∧ (∀ i, i < h → w ≤ ga p x i) ∧ h < (row p x).length := by
  unfold low at e
  rw [List.head?_filter, List.find?_range_eq_some] at e
  obtain ⟨a, b, c⟩ := e
  refine ⟨by simpa using a, fun i hi => ?_, List.mem_range.mp b⟩
  have := c i hi
  simpa using this
theorem low_none {p x w : Nat} (hp : 1 ≤ p) : (low p x w).head? = none ↔ w = 0 := by
  unfold low
  rw [List.head?_filter, List.find?_eq_none]
  constructor
  · intro h
    obtain ⟨a, _, c⟩ := row_len hp x x (Nat.le_refl x)
    have := h ((row p x).length - 1) (List.mem_range.mpr (by omega))
    rw [c] at this
    simpa using this
  · intro h z _
    rw [h]
    simp
theorem low_mono {p q x y w v h h' : Nat} (hp : 1 ≤ p) (hq : p ≤ q) (hx : x ≤ y) (hv : v ≤ w) (e : (low p x w).head? = some h) (e' : (low q y v).head? = some h') : h ≤ h' := by
  obtain ⟨_, b, _⟩ := low_head e
  obtain ⟨a', _, _⟩ := low_head e'
  have := ga_le hp hq hx h'
  rcases Nat.lt_or_ge h' h with z | z
  · have := b h' z
    omega
  · exact z
/-! the flight -/
/-- the bag that is thrown: the first that is enough, the last if none is -/
def ks (g w : Nat) (b : List Nat) : Nat := match (List.range b.length).find? fun k => decide (w + b.sum ≤ g + b.getD k 0) with
  | some k => k
  | none => b.length - 1
theorem ks_lt {g w : Nat} {b : List Nat} (h : 0 < b.length) : ks g w b < b.length := by
  unfold ks
  split
  · rename_i k e
    exact List.mem_range.mp (List.mem_of_find?_eq_some e)
  · omega
def fl (w g : Nat) : Nat → List Nat → List Nat × List Nat
  | 0, b => ([], b)
  | n + 1, b => if g < w + b.sum then (b.getD (ks g w b) 0 :: (fl w g n (b.eraseIdx (ks g w b))).1, (fl w g n (b.eraseIdx (ks g w b))).2) else ([], b)
def flS (w : Nat) : Nat → List Nat → List Nat → List (Nat × Nat) × List (List Nat)
  | _, [], _ => ([], [])
  | h, g :: gs, b => ((fl w g b.length b).1.map (fun x => (h, x)) ++ (flS w (h + 1) gs (fl w g b.length b).2).1, (fl w g b.length b).2 :: (flS w (h + 1) gs (fl w g b.length b).2).2)
theorem fl_sub (w g : Nat) : ∀ (n : Nat) (b : List Nat), (fl w g n b).2.Sublist b
  | 0, b => List.Sublist.refl b
  | n + 1, b => by
    rw [fl]
    split
    · exact (fl_sub w g n _).trans (List.eraseIdx_sublist _ _)
    · exact List.Sublist.refl b
/-- behind the throws nothing is left or the gas is enough -/
theorem fl_end (w g : Nat) : ∀ (n : Nat) (b : List Nat), b.length = n → (fl w g n b).2 = [] ∨ w + (fl w g n b).2.sum ≤ g
  | 0, b, h => .inl (List.eq_nil_of_length_eq_zero h)
  | n + 1, b, h => by
    rw [fl]
    split
    · refine fl_end w g n _ ?_
      rw [List.length_eraseIdx_of_lt (ks_lt (by omega))]
      omega
    · exact .inr (show w + b.sum ≤ g by omega)
theorem fl_len (w g : Nat) : ∀ (n : Nat) (b : List Nat), b.length = n → (fl w g n b).1.length + (fl w g n b).2.length = n
  | 0, b, h => by
    show 0 + b.length = 0
    omega
  | n + 1, b, h => by
    rw [fl]
    split
    · have := fl_len w g n (b.eraseIdx (ks g w b)) (by rw [List.length_eraseIdx_of_lt (ks_lt (by omega))]; omega)
      show (fl w g n (b.eraseIdx (ks g w b))).1.length + 1 + (fl w g n (b.eraseIdx (ks g w b))).2.length = _
      omega
    · exact (Nat.zero_add _).trans h
theorem flS_len (w : Nat) : ∀ (gs : List Nat) (h : Nat) (b : List Nat), (flS w h gs b).2.length = gs.length ∧ (flS w h gs b).1.length ≤ b.length
  | [], h, b => ⟨rfl, Nat.zero_le _⟩
  | g :: gs, h, b => by
    obtain ⟨a, c⟩ := flS_len w gs (h + 1) (fl w g b.length b).2
    have := fl_len w g b.length b rfl
    rw [flS]
    refine ⟨by rw [List.length_cons, List.length_cons, a], ?_⟩
    show (List.map _ _ ++ _).length ≤ _
    rw [List.length_append, List.length_map]
    omega
theorem flS_sub (w : Nat) : ∀ (gs : List Nat) (h : Nat) (b : List Nat) (i : Nat) (r : List Nat), (flS w h gs b).2[i]? = some r → r.Sublist b
  | [], h, b, i, r, e => by simp [flS] at e
  | g :: gs, h, b, i, r, e => by
    rw [flS] at e
    cases i with
    | zero => cases e; exact fl_sub w g _ b
    | succ i =>
      have e : (flS w (h + 1) gs (fl w g b.length b).2).2[i]? = some r := by simpa using e
      exact (flS_sub w gs _ _ i r e).trans (fl_sub w g _ b)
theorem flS_enough (w : Nat) : ∀ (gs : List Nat) (h : Nat) (b : List Nat) (i : Nat) (g : Nat) (r : List Nat), gs[i]? = some g → (flS w h gs b).2[i]? = some r → w ≤ g → w + r.sum ≤ g
  | [], h, b, i, g, r, e, _, _ => by simp at e
  | g0 :: gs, h, b, i, g, r, e, e2, hw => by
    rw [flS] at e2
    cases i with
    | zero =>
      obtain rfl : g0 = g := by simpa using e
      cases e2
      rcases fl_end w g0 b.length b rfl with z | z
      · rw [z]
        exact hw
      · exact z
    | succ i =>
      have e2 : (flS w (h + 1) gs (fl w g0 b.length b).2).2[i]? = some r := by simpa using e2
      exact flS_enough w gs _ _ i g r (by simpa using e) e2 hw
/-! sorted rows -/
theorem sorted_pull : ∀ {t : List Nat} {a j : Nat}, (a :: t).Pairwise (· ≤ ·) → t[j]? = some a → t = a :: t.eraseIdx j
  | [], a, j, _, e => by simp at e
  | b :: t, a, 0, h, e => by
    cases e
    rfl
  | b :: t, a, j + 1, h, e => by
    have e : t[j]? = some a := by simpa using e
    have h1 := List.pairwise_cons.mp h
    have h2 := List.pairwise_cons.mp h1.2
    have ab := h1.1 b List.mem_cons_self
    have ba := h2.1 a (List.mem_of_getElem? e)
    have : b = a := by omega
    subst this
    have := sorted_pull h1.2 e
    rw [List.eraseIdx_cons_succ, ← this]
theorem sorted_erase : ∀ {l : List Nat} {i j v : Nat}, l.Pairwise (· ≤ ·) → i ≤ j → l[i]? = some v → l[j]? = some v → l.eraseIdx i = l.eraseIdx j
  | [], i, j, v, _, _, e, _ => by simp at e
  | a :: t, 0, 0, v, _, _, _, _ => rfl
  | a :: t, 0, j + 1, v, h, _, e, e2 => by
    cases e
    rw [List.eraseIdx_cons_zero, List.eraseIdx_cons_succ]
    exact sorted_pull h (by simpa using e2)
  | a :: t, i + 1, 0, v, _, h, _, _ => by omega
  | a :: t, i + 1, j + 1, v, h, hij, e, e2 => by
    rw [List.eraseIdx_cons_succ, List.eraseIdx_cons_succ, sorted_erase (l := t) (i := i) (j := j) (v := v) (List.pairwise_cons.mp h).2 (by omega) (by simpa using e) (by simpa using e2)]
end K88

set_option Elab.async false
set_option linter.all false
set_option maxRecDepth 100000
set_option maxHeartbeats 4000000
namespace K88
open PySem PySem.Spec PyProof.Rows L2 DL
/-! ### the text: printed by gen.py -/
def topS (i : Nat) : Stmt := PySem.Challenge.pw_kiteheld_k88_whole_balloons_that_sink.main.body.getD i (.Pass ⟨0, 0, 0, 0⟩)
/-- what the top says of names -/
structure Top (K : PySem.W.Frag) (mg : Str → Option Value) : Prop where
  b_abs : mg "abs" = none
  b_all : mg "all" = none
  b_bool : mg "bool" = none
  b_enumerate : mg "enumerate" = none
  b_int : mg "int" = none
  b_isinstance : mg "isinstance" = none
  b_len : mg "len" = none
  b_list : mg "list" = none
  b_max : mg "max" = none
  b_min : mg "min" = none
  b_range : mg "range" = none
  b_reversed : mg "reversed" = none
  b_sorted : mg "sorted" = none
  b_str : mg "str" = none
  b_sum : mg "sum" = none
  b_tuple : mg "tuple" = none
  g_LEAST_PART : ∃ t, mg "LEAST_PART" = some (.int 2 t)
  g_MOST_BAG : ∃ t, mg "MOST_BAG" = some (.int 100 t)
  g_MOST_BAGS : ∃ t, mg "MOST_BAGS" = some (.int 10 t)
  g_MOST_GAS : ∃ t, mg "MOST_GAS" = some (.int 1000 t)
  g_MOST_PART : ∃ t, mg "MOST_PART" = some (.int 20 t)
  g_MOST_WEIGHT : ∃ t, mg "MOST_WEIGHT" = some (.int 500 t)
/-! is_number -/
abbrev s_is_number : Stmt := topS 1
abbrev N_is_number : List Str := ["value", "least", "most"]
abbrev p_is_number : List Str := ["value", "least", "most"]
theorem sc_is_number : FnScope N_is_number p_is_number (defScope s_is_number) := ⟨rfl, rfl, rfl, by decide +kernel, rfl, by decide +kernel, by decide +kernel⟩
def T_is_number : ST := (sRet (tAnd' (t1 (fIsi .int) (tV 0)) (tAnd' (tNot' (t1 (fIsi .bool) (tV 0))) (tCh fLe fLe (tV 1) (tV 0) (tV 2)))))
theorem d_is_number {P : Program} {w : World} {K : PySem.W.Frag} {mg : Str → Option Value} {base : Heap} {T : Addr → Prop} {k : Nat} (Z : Top K mg) {fa : Addr} (cdv : Value) (A : Around) (outer : List Env) (s : Shared) (H : Hp) (E : XK)
    (hr : Room k (A.deeper (envOfC "is_number" (defScope s_is_number) s.heap.objs.size fa cdv))) :
    DSs (cxOf (L2N.CX P w) P w K mg base N_is_number "is_number" (defScope s_is_number) fa cdv A outer s H E) ⟨none, T⟩ (fun c d _ H => E c d H) (defBody s_is_number) (T_is_number) :=
  (dss_one (ds_ret (de_and (de_isi .int Z.b_isinstance Z.b_int (by decide +kernel) (de_v 0)) (de_and (de_not (de_isi .bool Z.b_isinstance Z.b_bool (by decide +kernel) (de_v 0))) (de_one (de_chain op_le le_ok op_le le_ok (de_v 1) (de_v 0) (de_v 2)))))))
theorem ok_is_number {P : Program} {w : World} {K : PySem.W.Frag} {mg : Str → Option Value} {base : Heap} {T : Addr → Prop} {k : Nat} (Z : Top K mg) {fa : Addr} {fd : FuncData} (F : Fun K "is_number" "is_number" s_is_number fa fd) (hm : mg "is_number" = some (.ref fa)) (hb : Binds K fd p_is_number []) {sp : PSp} (len : ∀ ds q x, sp ds q x → ds.length = 3)
    (hsp : ∀ ds q x, sp ds q x → T_is_number ⟨fun _ => q (.d .non), fun r _ => q r, fun _ => False, fun _ => False, fun c _ => x c⟩ (startE N_is_number ds)) : CallD P w K mg base T (k + 1) "is_number" p_is_number sp :=
  ⟨fa, fd, fn_ok F sc_is_number len (fun cdv A outer s H E hr => d_is_number Z cdv A outer s H E hr) hsp, hm, F.kp, hb⟩
/-! is_balloon -/
abbrev s_is_balloon : Stmt := topS 9
abbrev N_is_balloon : List Str := ["value", "bags", "one"]
abbrev p_is_balloon : List Str := ["value"]
theorem sc_is_balloon : FnScope N_is_balloon p_is_balloon (defScope s_is_balloon) := ⟨rfl, rfl, rfl, by decide +kernel, rfl, by decide +kernel, by decide +kernel⟩
def T_is_balloon (sp_is_number : PSp) : ST := (sSeq (sIf (bOr (bNot (tTr (t1 (fIsi .tuple) (tV 0)))) (bOr (tT (t2 (fNe) (tC' fLen (aCons (tV 0) aNil)) (tK (.int 4)))) (bNot (tTr (tCall' sp_is_number (aCons (t2 fIx (tV 0) (tK (.int 0))) (aCons (tK (.int 1)) (aCons (tK (.int 1000)) aNil)))))))) (sRet (tK (.bl false))) sNext)
    (sSeq (sIf (bOr (bNot (tTr (tCall' sp_is_number (aCons (t2 fIx (tV 0) (tK (.int 1))) (aCons (tK (.int 2)) (aCons (tK (.int 20)) aNil)))))) (bNot (tTr (tCall' sp_is_number (aCons (t2 fIx (tV 0) (tK (.int 2))) (aCons (tK (.int 0)) (aCons (tK (.int 500)) aNil))))))) (sRet (tK (.bl false))) sNext)
    (sSeq (sSet 1 (t2 fIx (tV 0) (tK (.int 3))))
    (sRet (tAnd' (t1 (fIsi .tuple) (tV 1)) (tAnd' (t2 (fLe) (tC' fLen (aCons (tV 1) aNil)) (tK (.int 10))) (tAllN 1 100 (tV 1))))))))
theorem d_is_balloon {P : Program} {w : World} {K : PySem.W.Frag} {mg : Str → Option Value} {base : Heap} {T : Addr → Prop} {k : Nat} {sp_is_number : PSp} (Z : Top K mg) (c_is_number : CallD P w K mg base T k "is_number" p_is_number sp_is_number) {c Pt fN : Addr} (TB : GTab T base mg c Pt) (nd : NumDef K mg fN) {fa : Addr} (cdv : Value) (A : Around) (outer : List Env) (s : Shared) (H : Hp) (E : XK)
    (hcd : cdv = .ref c) (hr : Room k (A.deeper (envOfC "is_balloon" (defScope s_is_balloon) s.heap.objs.size fa cdv))) :
    DSs (cxOf (L2N.CX P w) P w K mg base N_is_balloon "is_balloon" (defScope s_is_balloon) fa cdv A outer s H E) ⟨none, T⟩ (fun c d _ H => E c d H) (defBody s_is_balloon) (T_is_balloon sp_is_number) :=
  by
  subst hcd
  exact (dss_cons (ds_if (dw_or (db_not (db_tru (de_isi .tuple Z.b_isinstance Z.b_tuple (by decide +kernel) (de_v 0)))) (dw_or (db_ne hr (de_len Z.b_len (de_v 0)) de_int) (dw_or1 (db_not (db_tru (de_c c_is_number (L2N.takes_of rfl rfl rfl rfl) hr (da_cons (de_ix (de_v 0) de_int (fun _ _ => rfl)) (da_cons de_int (da_cons (de_gi (by rfl) Z.g_MOST_GAS) da_nil))))))))).toB (dss_one (ds_ret de_bl)) dss_nil)
    (dss_cons (ds_if (dw_or (db_not (db_tru (de_c c_is_number (L2N.takes_of rfl rfl rfl rfl) hr (da_cons (de_ix (de_v 0) de_int (fun _ _ => rfl)) (da_cons (de_gi (by rfl) Z.g_LEAST_PART) (da_cons (de_gi (by rfl) Z.g_MOST_PART) da_nil)))))) (dw_or1 (db_not (db_tru (de_c c_is_number (L2N.takes_of rfl rfl rfl rfl) hr (da_cons (de_ix (de_v 0) de_int (fun _ _ => rfl)) (da_cons de_int (da_cons (de_gi (by rfl) Z.g_MOST_WEIGHT) da_nil)))))))).toB (dss_one (ds_ret de_bl)) dss_nil)
    (dss_cons (ds_set (i := 1) sc_is_balloon.nd rfl (.inl rfl) (de_ix (de_v 0) de_int (fun _ _ => rfl)))
    (dss_one (ds_ret (de_and (de_isi .tuple Z.b_isinstance Z.b_tuple (by decide +kernel) (de_v 1)) (de_and (de_le (de_len Z.b_len (de_v 1)) (de_gi (by rfl) Z.g_MOST_BAGS)) (de_one (de_allN hr Z.b_all TB nd (de_v 1) argI_int (argI_glob Z.g_MOST_BAG rfl) (genS_of rfl rfl (by decide +kernel) rfl rfl (by decide +kernel)) rfl)))))))))
theorem ok_is_balloon {P : Program} {w : World} {K : PySem.W.Frag} {mg : Str → Option Value} {base : Heap} {T : Addr → Prop} {k : Nat} {sp_is_number : PSp} (Z : Top K mg) (c_is_number : CallD P w K mg base T k "is_number" p_is_number sp_is_number) {c Pt fN : Addr} (TB : GTab T base mg c Pt) (nd : NumDef K mg fN) {fa : Addr} {fd : FuncData} (hc : fd.code = .ref c) (F : Fun K "is_balloon" "is_balloon" s_is_balloon fa fd) (hm : mg "is_balloon" = some (.ref fa)) (hb : Binds K fd p_is_balloon []) {sp : PSp} (len : ∀ ds q x, sp ds q x → ds.length = 1)
    (hsp : ∀ ds q x, sp ds q x → T_is_balloon sp_is_number ⟨fun _ => q (.d .non), fun r _ => q r, fun _ => False, fun _ => False, fun c _ => x c⟩ (startE N_is_balloon ds)) : CallD P w K mg base T (k + 1) "is_balloon" p_is_balloon sp :=
  ⟨fa, fd, fn_okG F hc sc_is_balloon len (fun cdv A outer s H E hcd hr => d_is_balloon Z c_is_number TB nd cdv A outer s H E hcd hr) hsp, hm, F.kp, hb⟩
/-! gas_row -/
abbrev s_gas_row : Stmt := topS 10
abbrev N_gas_row : List Str := ["balloon", "found"]
abbrev p_gas_row : List Str := ["balloon"]
theorem sc_gas_row : FnScope N_gas_row p_gas_row (defScope s_gas_row) := ⟨rfl, rfl, rfl, by decide +kernel, rfl, by decide +kernel, by decide +kernel⟩
def T_gas_row : ST := (sSeq (sSet 1 (tLst' (aCons (t2 fIx (tV 0) (tK (.int 0))) aNil)))
    (sSeq (sWhile (tT (t2 (fGt) (t2 fIx (tV 1) (t1 fNeg (tK (.int 1)))) (tK (.int 0)))) (sExpr (tAppend (tV 1) (aCons (t2 fSub (t2 fIx (tV 1) (t1 fNeg (tK (.int 1)))) (t1 fNeg (t2 fDiv (t1 fNeg (t2 fIx (tV 1) (t1 fNeg (tK (.int 1))))) (t2 fIx (tV 0) (tK (.int 1)))))) aNil))))
    (sRet (tV 1))))
theorem d_gas_row {P : Program} {w : World} {K : PySem.W.Frag} {mg : Str → Option Value} {base : Heap} {T : Addr → Prop} {k : Nat} (Z : Top K mg) {fa : Addr} (cdv : Value) (A : Around) (outer : List Env) (s : Shared) (H : Hp) (E : XK)
    (hr : Room k (A.deeper (envOfC "gas_row" (defScope s_gas_row) s.heap.objs.size fa cdv))) :
    DSs (cxOf (L2N.CX P w) P w K mg base N_gas_row "gas_row" (defScope s_gas_row) fa cdv A outer s H E) ⟨none, T⟩ (fun c d _ H => E c d H) (defBody s_gas_row) (T_gas_row) :=
  (dss_cons (ds_set (i := 1) sc_gas_row.nd rfl (.inl rfl) (de_lst (da_cons (de_ix (de_v 0) de_int (fun _ _ => rfl)) da_nil)))
    (dss_cons (ds_while (L2.passes_of rfl) (db_gt (de_ix (de_v 1) (de_neg de_int) (fun _ _ => rfl)) de_int) (dss_one (ds_expr (de_append (de_v 1) (da_cons (de_sub (de_ix (de_v 1) (de_neg de_int) (fun _ _ => rfl)) (de_neg (de_div (de_neg (de_ix (de_v 1) (de_neg de_int) (fun _ _ => rfl))) (de_ix (de_v 0) de_int (fun _ _ => rfl))))) da_nil)))))
    (dss_one (ds_ret (de_v 1)))))
theorem ok_gas_row {P : Program} {w : World} {K : PySem.W.Frag} {mg : Str → Option Value} {base : Heap} {T : Addr → Prop} {k : Nat} (Z : Top K mg) {fa : Addr} {fd : FuncData} (F : Fun K "gas_row" "gas_row" s_gas_row fa fd) (hm : mg "gas_row" = some (.ref fa)) (hb : Binds K fd p_gas_row []) {sp : PSp} (len : ∀ ds q x, sp ds q x → ds.length = 1)
    (hsp : ∀ ds q x, sp ds q x → T_gas_row ⟨fun _ => q (.d .non), fun r _ => q r, fun _ => False, fun _ => False, fun c _ => x c⟩ (startE N_gas_row ds)) : CallD P w K mg base T (k + 1) "gas_row" p_gas_row sp :=
  ⟨fa, fd, fn_ok F sc_gas_row len (fun cdv A outer s H E hr => d_gas_row Z cdv A outer s H E hr) hsp, hm, F.kp, hb⟩
/-! gas_at -/
abbrev s_gas_at : Stmt := topS 11
abbrev N_gas_at : List Str := ["balloon", "hour", "row"]
abbrev p_gas_at : List Str := ["balloon", "hour"]
theorem sc_gas_at : FnScope N_gas_at p_gas_at (defScope s_gas_at) := ⟨rfl, rfl, rfl, by decide +kernel, rfl, by decide +kernel, by decide +kernel⟩
def T_gas_at (sp_gas_row : PSp) : ST := (sSeq (sSet 2 (tCall' sp_gas_row (aCons (tV 0) aNil)))
    (sRet (t2 fIx (tV 2) (tC' fMin2 (aCons (tV 1) (aCons (t2 fSub (tC' fLen (aCons (tV 2) aNil)) (tK (.int 1))) aNil))))))
theorem d_gas_at {P : Program} {w : World} {K : PySem.W.Frag} {mg : Str → Option Value} {base : Heap} {T : Addr → Prop} {k : Nat} {sp_gas_row : PSp} (Z : Top K mg) (c_gas_row : CallD P w K mg base T k "gas_row" p_gas_row sp_gas_row) {fa : Addr} (cdv : Value) (A : Around) (outer : List Env) (s : Shared) (H : Hp) (E : XK)
    (hr : Room k (A.deeper (envOfC "gas_at" (defScope s_gas_at) s.heap.objs.size fa cdv))) :
    DSs (cxOf (L2N.CX P w) P w K mg base N_gas_at "gas_at" (defScope s_gas_at) fa cdv A outer s H E) ⟨none, T⟩ (fun c d _ H => E c d H) (defBody s_gas_at) (T_gas_at sp_gas_row) :=
  (dss_cons (ds_set (i := 2) sc_gas_at.nd rfl (.inl rfl) (de_c c_gas_row (L2N.takes_of rfl rfl rfl rfl) hr (da_cons (de_v 0) da_nil)))
    (dss_one (ds_ret (de_ix (de_v 2) (de_min2 Z.b_min rfl (de_v 1) (de_sub (de_len Z.b_len (de_v 2)) de_int)) (fun _ _ => rfl)))))
theorem ok_gas_at {P : Program} {w : World} {K : PySem.W.Frag} {mg : Str → Option Value} {base : Heap} {T : Addr → Prop} {k : Nat} {sp_gas_row : PSp} (Z : Top K mg) (c_gas_row : CallD P w K mg base T k "gas_row" p_gas_row sp_gas_row) {fa : Addr} {fd : FuncData} (F : Fun K "gas_at" "gas_at" s_gas_at fa fd) (hm : mg "gas_at" = some (.ref fa)) (hb : Binds K fd p_gas_at []) {sp : PSp} (len : ∀ ds q x, sp ds q x → ds.length = 2)
    (hsp : ∀ ds q x, sp ds q x → T_gas_at sp_gas_row ⟨fun _ => q (.d .non), fun r _ => q r, fun _ => False, fun _ => False, fun c _ => x c⟩ (startE N_gas_at ds)) : CallD P w K mg base T (k + 1) "gas_at" p_gas_at sp :=
  ⟨fa, fd, fn_ok F sc_gas_at len (fun cdv A outer s H E hr => d_gas_at Z c_gas_row cdv A outer s H E hr) hsp, hm, F.kp, hb⟩
/-! hours_of -/
abbrev s_hours_of : Stmt := topS 12
abbrev N_hours_of : List Str := ["balloon", "below", "hour", "gas"]
abbrev p_hours_of : List Str := ["balloon"]
theorem sc_hours_of : FnScope N_hours_of p_hours_of (defScope s_hours_of) := ⟨rfl, rfl, rfl, by decide +kernel, rfl, by decide +kernel, by decide +kernel⟩
def T_hours_of (sp_gas_row : PSp) : ST := (sSeq (sSet 1 (tLc' (iEnumD (tCall' sp_gas_row (aCons (tV 0) aNil))) (gTupD 2 (gsCons (gVar 2) (gsCons (gVar 3) gsNil))) (tT (t2 (fLt) (tV 3) (t2 fIx (tV 0) (tK (.int 2))))) (tV 2) [2, 3]))
    (sRet (tIf' (tT (t2 (fGt) (tC' fLen (aCons (tV 1) aNil)) (tK (.int 0)))) (t2 fIx (tV 1) (tK (.int 0))) (tK .non))))
theorem d_hours_of {P : Program} {w : World} {K : PySem.W.Frag} {mg : Str → Option Value} {base : Heap} {T : Addr → Prop} {k : Nat} {sp_gas_row : PSp} (Z : Top K mg) (c_gas_row : CallD P w K mg base T k "gas_row" p_gas_row sp_gas_row) {fa : Addr} (cdv : Value) (A : Around) (outer : List Env) (s : Shared) (H : Hp) (E : XK)
    (hr : Room k (A.deeper (envOfC "hours_of" (defScope s_hours_of) s.heap.objs.size fa cdv))) :
    DSs (cxOf (L2N.CX P w) P w K mg base N_hours_of "hours_of" (defScope s_hours_of) fa cdv A outer s H E) ⟨none, T⟩ (fun c d _ H => E c d H) (defBody s_hours_of) (T_hours_of sp_gas_row) :=
  (dss_cons (ds_setLc' (i := 1) rfl sc_hours_of.nd rfl rfl (sw_true rfl rfl rfl (by decide +kernel)) (di_enum Z.b_enumerate (de_c c_gas_row (L2N.takes_of rfl rfl rfl rfl) hr (da_cons (de_v 0) da_nil))) (blkOk_by (N := N_hours_of) (sc := (defScope s_hours_of)) (own := [("hour", 2), ("gas", 3)]) (by decide +kernel)) (fun _ _ _ _ _ => (dg_tup rfl (dgs_cons (dg_name (i := 2) sc_hours_of.nd rfl (.inl rfl)) (dgs_cons (dg_name (i := 3) sc_hours_of.nd rfl (.inl rfl)) dgs_nil)))) (fun _ _ _ _ _ => (dts_one (db_lt (de_v 3) (de_ix (de_v 0) de_int (fun _ _ => rfl))))) (fun _ _ _ _ _ => (de_v 2)) (by decide))
    (dss_one (ds_ret (de_if (db_gt (de_len Z.b_len (de_v 1)) de_int) (de_ix (de_v 1) de_int (fun _ _ => rfl)) de_non))))
theorem ok_hours_of {P : Program} {w : World} {K : PySem.W.Frag} {mg : Str → Option Value} {base : Heap} {T : Addr → Prop} {k : Nat} {sp_gas_row : PSp} (Z : Top K mg) (c_gas_row : CallD P w K mg base T k "gas_row" p_gas_row sp_gas_row) {fa : Addr} {fd : FuncData} (F : Fun K "hours_of" "hours_of" s_hours_of fa fd) (hm : mg "hours_of" = some (.ref fa)) (hb : Binds K fd p_hours_of []) {sp : PSp} (len : ∀ ds q x, sp ds q x → ds.length = 1)
    (hsp : ∀ ds q x, sp ds q x → T_hours_of sp_gas_row ⟨fun _ => q (.d .non), fun r _ => q r, fun _ => False, fun _ => False, fun c _ => x c⟩ (startE N_hours_of ds)) : CallD P w K mg base T (k + 1) "hours_of" p_hours_of sp :=
  ⟨fa, fd, fn_ok F sc_hours_of len (fun cdv A outer s H E hr => d_hours_of Z c_gas_row cdv A outer s H E hr) hsp, hm, F.kp, hb⟩
/-! flight_of -/
abbrev s_flight_of : Stmt := topS 13
abbrev N_flight_of : List Str := ["balloon", "weight", "bags", "thrown", "left", "hour", "gas", "enough", "bag", "at", "one"]
abbrev p_flight_of : List Str := ["balloon"]
theorem sc_flight_of : FnScope N_flight_of p_flight_of (defScope s_flight_of) := ⟨rfl, rfl, rfl, by decide +kernel, rfl, by decide +kernel, by decide +kernel⟩
def T_flight_of (sp_gas_row : PSp) : ST := (sSeq (sAsg (tTup' (aCons (t2 fIx (tV 0) (tK (.int 2))) (aCons (tC' fSortedT (aCons (t2 fIx (tV 0) (tK (.int 3))) aNil)) aNil))) (gTupD 2 (gsCons (gVar 1) (gsCons (gVar 2) gsNil))))
    (sSeq (sPar 3 4 (tLst' aNil) (tLst' aNil))
    (sSeq (sFor (iEnumD (tCall' sp_gas_row (aCons (tV 0) aNil))) (gTupD 2 (gsCons (gVar 5) (gsCons (gVar 6) gsNil))) (sSeq (sWhile (bAnd (tT (t2 (fGt) (tC' fLen (aCons (tV 2) aNil)) (tK (.int 0)))) (tT (t2 (fLt) (tV 6) (t2 fAdd (tV 1) (tC' fSumA (aCons (tV 2) aNil)))))) (sSeq (sSet 7 (tLc' (iSeqD (tV 2)) (gVar 10) (tT (t2 (fGe) (tV 6) (t2 fSub (t2 fAdd (tV 1) (tC' fSumA (aCons (tV 2) aNil))) (tV 10)))) (tV 10) [10]))
    (sSeq (sSet 8 (tIf' (tT (t2 (fGt) (tC' fLen (aCons (tV 7) aNil)) (tK (.int 0)))) (t2 fIx (tV 7) (tK (.int 0))) (t2 fIx (tV 2) (t1 fNeg (tK (.int 1))))))
    (sSeq (sSet 9 (tIndex (tV 2) (tV 8)))
    (sSeq (sSet 2 (t2 fAdd (tSl' (tV 2) oNone (oSome (tV 9))) (tSl' (tV 2) (oSome (t2 fAdd (tV 9) (tK (.int 1)))) oNone)))
    (sExpr (tAppend (tV 3) (aCons (tTup' (aCons (tV 5) (aCons (tV 8) aNil))) aNil))))))))
    (sExpr (tAppend (tV 4) (aCons (tC' fTuple (aCons (tV 2) aNil)) aNil)))))
    (sRet (tTup' (aCons (tV 3) (aCons (tV 4) aNil)))))))
theorem d_flight_of {P : Program} {w : World} {K : PySem.W.Frag} {mg : Str → Option Value} {base : Heap} {T : Addr → Prop} {k : Nat} {sp_gas_row : PSp} (Z : Top K mg) (c_gas_row : CallD P w K mg base T k "gas_row" p_gas_row sp_gas_row) {fa : Addr} (cdv : Value) (A : Around) (outer : List Env) (s : Shared) (H : Hp) (E : XK)
    (hr : Room k (A.deeper (envOfC "flight_of" (defScope s_flight_of) s.heap.objs.size fa cdv))) :
    DSs (cxOf (L2N.CX P w) P w K mg base N_flight_of "flight_of" (defScope s_flight_of) fa cdv A outer s H E) ⟨none, T⟩ (fun c d _ H => E c d H) (defBody s_flight_of) (T_flight_of sp_gas_row) :=
  (dss_cons (ds_asg (de_tup (da_cons (de_ix (de_v 0) de_int (fun _ _ => rfl)) (da_cons (de_sortedT Z.b_sorted (de_ix (de_v 0) de_int (fun _ _ => rfl))) da_nil))) (dg_tup rfl (dgs_cons (dg_name (i := 1) sc_flight_of.nd rfl (.inr rfl)) (dgs_cons (dg_name (i := 2) sc_flight_of.nd rfl (.inr rfl)) dgs_nil))))
    (dss_cons (ds_par (i := 3) (j := 4) rfl sc_flight_of.nd rfl rfl (by decide) rfl rfl (de_lst da_nil) (de_lst da_nil) (by rfl))
    (dss_cons (ds_for (L2.passes_of rfl) rfl (di_enum Z.b_enumerate (de_c c_gas_row (L2N.takes_of rfl rfl rfl rfl) hr (da_cons (de_v 0) da_nil))) (dg_tup rfl (dgs_cons (dg_name (i := 5) sc_flight_of.nd rfl (.inl rfl)) (dgs_cons (dg_name (i := 6) sc_flight_of.nd rfl (.inr rfl)) dgs_nil))) (dss_cons (ds_while (L2.passes_of rfl) (dw_and (db_gt (de_len Z.b_len (de_v 2)) de_int) (dw_and1 (db_lt (de_v 6) (de_add (de_v 1) (de_sumA rfl Z.b_sum (de_v 2)))))).toB (dss_cons (ds_setLc' (i := 7) rfl sc_flight_of.nd rfl rfl (sw_true rfl rfl rfl (by decide +kernel)) (di_seq (de_v 2)) (blkOk_by (N := N_flight_of) (sc := (defScope s_flight_of)) (own := [("one", 10)]) (by decide +kernel)) (fun _ _ _ _ _ => (dg_name (i := 10) sc_flight_of.nd rfl (.inl rfl))) (fun _ _ _ _ _ => (dts_one (db_ge (de_v 6) (de_sub (de_add (de_v 1) (de_sumA rfl Z.b_sum (de_v 2))) (de_v 10))))) (fun _ _ _ _ _ => (de_v 10)) (by decide))
    (dss_cons (ds_set (i := 8) sc_flight_of.nd rfl (.inl rfl) (de_if (db_gt (de_len Z.b_len (de_v 7)) de_int) (de_ix (de_v 7) de_int (fun _ _ => rfl)) (de_ix (de_v 2) (de_neg de_int) (fun _ _ => rfl))))
    (dss_cons (ds_set (i := 9) sc_flight_of.nd rfl (.inl rfl) (de_index (de_v 2) (de_v 8)))
    (dss_cons (ds_set (i := 2) sc_flight_of.nd rfl (.inr rfl) (de_add (de_slice (de_v 2) do_none (do_some (de_v 9))) (de_slice (de_v 2) (do_some (de_add (de_v 9) de_int)) do_none)))
    (dss_one (ds_expr (de_append (de_v 3) (da_cons (de_tup (da_cons (de_v 5) (da_cons (de_v 8) da_nil))) da_nil)))))))))
    (dss_one (ds_expr (de_append (de_v 4) (da_cons (de_tuple Z.b_tuple (de_v 2)) da_nil))))))
    (dss_one (ds_ret (de_tup (da_cons (de_v 3) (da_cons (de_v 4) da_nil))))))))
theorem ok_flight_of {P : Program} {w : World} {K : PySem.W.Frag} {mg : Str → Option Value} {base : Heap} {T : Addr → Prop} {k : Nat} {sp_gas_row : PSp} (Z : Top K mg) (c_gas_row : CallD P w K mg base T k "gas_row" p_gas_row sp_gas_row) {fa : Addr} {fd : FuncData} (F : Fun K "flight_of" "flight_of" s_flight_of fa fd) (hm : mg "flight_of" = some (.ref fa)) (hb : Binds K fd p_flight_of []) {sp : PSp} (len : ∀ ds q x, sp ds q x → ds.length = 1)
    (hsp : ∀ ds q x, sp ds q x → T_flight_of sp_gas_row ⟨fun _ => q (.d .non), fun r _ => q r, fun _ => False, fun _ => False, fun c _ => x c⟩ (startE N_flight_of ds)) : CallD P w K mg base T (k + 1) "flight_of" p_flight_of sp :=
  ⟨fa, fd, fn_ok F sc_flight_of len (fun cdv A outer s H E hr => d_flight_of Z c_gas_row cdv A outer s H E hr) hsp, hm, F.kp, hb⟩
/-! thrown_by -/
abbrev s_thrown_by : Stmt := topS 14
abbrev N_thrown_by : List Str := ["balloon"]
abbrev p_thrown_by : List Str := ["balloon"]
theorem sc_thrown_by : FnScope N_thrown_by p_thrown_by (defScope s_thrown_by) := ⟨rfl, rfl, rfl, by decide +kernel, rfl, by decide +kernel, by decide +kernel⟩
def T_thrown_by (sp_flight_of : PSp) : ST := (sRet (tC' fTuple (aCons (t2 fIx (tCall' sp_flight_of (aCons (tV 0) aNil)) (tK (.int 0))) aNil)))
theorem d_thrown_by {P : Program} {w : World} {K : PySem.W.Frag} {mg : Str → Option Value} {base : Heap} {T : Addr → Prop} {k : Nat} {sp_flight_of : PSp} (Z : Top K mg) (c_flight_of : CallD P w K mg base T k "flight_of" p_flight_of sp_flight_of) {fa : Addr} (cdv : Value) (A : Around) (outer : List Env) (s : Shared) (H : Hp) (E : XK)
    (hr : Room k (A.deeper (envOfC "thrown_by" (defScope s_thrown_by) s.heap.objs.size fa cdv))) :
    DSs (cxOf (L2N.CX P w) P w K mg base N_thrown_by "thrown_by" (defScope s_thrown_by) fa cdv A outer s H E) ⟨none, T⟩ (fun c d _ H => E c d H) (defBody s_thrown_by) (T_thrown_by sp_flight_of) :=
  (dss_one (ds_ret (de_tuple Z.b_tuple (de_ix (de_c c_flight_of (L2N.takes_of rfl rfl rfl rfl) hr (da_cons (de_v 0) da_nil)) de_int (fun _ _ => rfl)))))
theorem ok_thrown_by {P : Program} {w : World} {K : PySem.W.Frag} {mg : Str → Option Value} {base : Heap} {T : Addr → Prop} {k : Nat} {sp_flight_of : PSp} (Z : Top K mg) (c_flight_of : CallD P w K mg base T k "flight_of" p_flight_of sp_flight_of) {fa : Addr} {fd : FuncData} (F : Fun K "thrown_by" "thrown_by" s_thrown_by fa fd) (hm : mg "thrown_by" = some (.ref fa)) (hb : Binds K fd p_thrown_by []) {sp : PSp} (len : ∀ ds q x, sp ds q x → ds.length = 1)
    (hsp : ∀ ds q x, sp ds q x → T_thrown_by sp_flight_of ⟨fun _ => q (.d .non), fun r _ => q r, fun _ => False, fun _ => False, fun c _ => x c⟩ (startE N_thrown_by ds)) : CallD P w K mg base T (k + 1) "thrown_by" p_thrown_by sp :=
  ⟨fa, fd, fn_ok F sc_thrown_by len (fun cdv A outer s H E hr => d_thrown_by Z c_flight_of cdv A outer s H E hr) hsp, hm, F.kp, hb⟩
/-! bags_at -/
abbrev s_bags_at : Stmt := topS 15
abbrev N_bags_at : List Str := ["balloon", "hour", "left"]
abbrev p_bags_at : List Str := ["balloon", "hour"]
theorem sc_bags_at : FnScope N_bags_at p_bags_at (defScope s_bags_at) := ⟨rfl, rfl, rfl, by decide +kernel, rfl, by decide +kernel, by decide +kernel⟩
def T_bags_at (sp_flight_of : PSp) : ST := (sSeq (sSet 2 (t2 fIx (tCall' sp_flight_of (aCons (tV 0) aNil)) (tK (.int 1))))
    (sRet (t2 fIx (tV 2) (tC' fMin2 (aCons (tV 1) (aCons (t2 fSub (tC' fLen (aCons (tV 2) aNil)) (tK (.int 1))) aNil))))))
theorem d_bags_at {P : Program} {w : World} {K : PySem.W.Frag} {mg : Str → Option Value} {base : Heap} {T : Addr → Prop} {k : Nat} {sp_flight_of : PSp} (Z : Top K mg) (c_flight_of : CallD P w K mg base T k "flight_of" p_flight_of sp_flight_of) {fa : Addr} (cdv : Value) (A : Around) (outer : List Env) (s : Shared) (H : Hp) (E : XK)
    (hr : Room k (A.deeper (envOfC "bags_at" (defScope s_bags_at) s.heap.objs.size fa cdv))) :
    DSs (cxOf (L2N.CX P w) P w K mg base N_bags_at "bags_at" (defScope s_bags_at) fa cdv A outer s H E) ⟨none, T⟩ (fun c d _ H => E c d H) (defBody s_bags_at) (T_bags_at sp_flight_of) :=
  (dss_cons (ds_set (i := 2) sc_bags_at.nd rfl (.inl rfl) (de_ix (de_c c_flight_of (L2N.takes_of rfl rfl rfl rfl) hr (da_cons (de_v 0) da_nil)) de_int (fun _ _ => rfl)))
    (dss_one (ds_ret (de_ix (de_v 2) (de_min2 Z.b_min rfl (de_v 1) (de_sub (de_len Z.b_len (de_v 2)) de_int)) (fun _ _ => rfl)))))
theorem ok_bags_at {P : Program} {w : World} {K : PySem.W.Frag} {mg : Str → Option Value} {base : Heap} {T : Addr → Prop} {k : Nat} {sp_flight_of : PSp} (Z : Top K mg) (c_flight_of : CallD P w K mg base T k "flight_of" p_flight_of sp_flight_of) {fa : Addr} {fd : FuncData} (F : Fun K "bags_at" "bags_at" s_bags_at fa fd) (hm : mg "bags_at" = some (.ref fa)) (hb : Binds K fd p_bags_at []) {sp : PSp} (len : ∀ ds q x, sp ds q x → ds.length = 2)
    (hsp : ∀ ds q x, sp ds q x → T_bags_at sp_flight_of ⟨fun _ => q (.d .non), fun r _ => q r, fun _ => False, fun _ => False, fun c _ => x c⟩ (startE N_bags_at ds)) : CallD P w K mg base T (k + 1) "bags_at" p_bags_at sp :=
  ⟨fa, fd, fn_ok F sc_bags_at len (fun cdv A outer s H E hr => d_bags_at Z c_flight_of cdv A outer s H E hr) hsp, hm, F.kp, hb⟩
/-! fewest_throws -/
abbrev s_fewest_throws : Stmt := topS 16
abbrev N_fewest_throws : List Str := ["balloon", "down", "bags", "spare", "kept"]
abbrev p_fewest_throws : List Str := ["balloon"]
theorem sc_fewest_throws : FnScope N_fewest_throws p_fewest_throws (defScope s_fewest_throws) := ⟨rfl, rfl, rfl, by decide +kernel, rfl, by decide +kernel, by decide +kernel⟩
def T_fewest_throws (sp_hours_of : PSp) (sp_gas_at : PSp) : ST := (sSeq (sPar 1 2 (tCall' sp_hours_of (aCons (tV 0) aNil)) (tC' fSortedT (aCons (t2 fIx (tV 0) (tK (.int 3))) aNil)))
    (sSeq (sIf (tT (t2 (fEq) (tV 1) (tK (.int 0)))) (sRet (tK (.int 0))) sNext)
    (sSeq (sSet 3 (tIf' (tT (t2 (fIs true) (tV 1) (tK .non))) (t2 fSub (tCall' sp_gas_at (aCons (tV 0) (aCons (t2 fSub (tV 1) (tK (.int 1))) aNil))) (t2 fIx (tV 0) (tK (.int 2)))) (tK (.int 0))))
    (sSeq (sSet 4 (tK (.int 0)))
    (sSeq (sWhile (bAnd (tT (t2 (fLt) (tV 4) (tC' fLen (aCons (tV 2) aNil)))) (tT (t2 (fLe) (tC' fSumA (aCons (tSl' (tV 2) oNone (oSome (t2 fAdd (tV 4) (tK (.int 1))))) aNil)) (tV 3)))) (sAug (fI0 fun i j => .int (i + j)) 4 (tK (.int 1))))
    (sRet (t2 fSub (tC' fLen (aCons (tV 2) aNil)) (tV 4))))))))
theorem d_fewest_throws {P : Program} {w : World} {K : PySem.W.Frag} {mg : Str → Option Value} {base : Heap} {T : Addr → Prop} {k : Nat} {sp_hours_of : PSp} {sp_gas_at : PSp} (Z : Top K mg) (c_hours_of : CallD P w K mg base T k "hours_of" p_hours_of sp_hours_of) (c_gas_at : CallD P w K mg base T k "gas_at" p_gas_at sp_gas_at) {fa : Addr} (cdv : Value) (A : Around) (outer : List Env) (s : Shared) (H : Hp) (E : XK)
    (hr : Room k (A.deeper (envOfC "fewest_throws" (defScope s_fewest_throws) s.heap.objs.size fa cdv))) :
    DSs (cxOf (L2N.CX P w) P w K mg base N_fewest_throws "fewest_throws" (defScope s_fewest_throws) fa cdv A outer s H E) ⟨none, T⟩ (fun c d _ H => E c d H) (defBody s_fewest_throws) (T_fewest_throws sp_hours_of sp_gas_at) :=
  (dss_cons (ds_par (i := 1) (j := 2) rfl sc_fewest_throws.nd rfl rfl (by decide) rfl rfl (de_c c_hours_of (L2N.takes_of rfl rfl rfl rfl) hr (da_cons (de_v 0) da_nil)) (de_sortedT Z.b_sorted (de_ix (de_v 0) de_int (fun _ _ => rfl))) (by rfl))
    (dss_cons (ds_if (db_eq hr (de_v 1) de_int) (dss_one (ds_ret de_int)) dss_nil)
    (dss_cons (ds_set (i := 3) sc_fewest_throws.nd rfl (.inl rfl) (de_if (db_isnot (de_v 1) de_non) (de_sub (de_c c_gas_at (L2N.takes_of rfl rfl rfl rfl) hr (da_cons (de_v 0) (da_cons (de_sub (de_v 1) de_int) da_nil))) (de_ix (de_v 0) de_int (fun _ _ => rfl))) de_int))
    (dss_cons (ds_set (i := 4) sc_fewest_throws.nd rfl (.inl rfl) de_int)
    (dss_cons (ds_while (L2.passes_of rfl) (dw_and (db_lt (de_v 4) (de_len Z.b_len (de_v 2))) (dw_and1 (db_le (de_sumA rfl Z.b_sum (de_slice (de_v 2) do_none (do_some (de_add (de_v 4) de_int)))) (de_v 3)))).toB (dss_one (ds_aug (i := 4) sc_fewest_throws.nd rfl (.inl rfl) iop_add (rI0_ok fun _ _ _ _ => .int _) de_int)))
    (dss_one (ds_ret (de_sub (de_len Z.b_len (de_v 2)) (de_v 4)))))))))
theorem ok_fewest_throws {P : Program} {w : World} {K : PySem.W.Frag} {mg : Str → Option Value} {base : Heap} {T : Addr → Prop} {k : Nat} {sp_hours_of : PSp} {sp_gas_at : PSp} (Z : Top K mg) (c_hours_of : CallD P w K mg base T k "hours_of" p_hours_of sp_hours_of) (c_gas_at : CallD P w K mg base T k "gas_at" p_gas_at sp_gas_at) {fa : Addr} {fd : FuncData} (F : Fun K "fewest_throws" "fewest_throws" s_fewest_throws fa fd) (hm : mg "fewest_throws" = some (.ref fa)) (hb : Binds K fd p_fewest_throws []) {sp : PSp} (len : ∀ ds q x, sp ds q x → ds.length = 1)
    (hsp : ∀ ds q x, sp ds q x → T_fewest_throws sp_hours_of sp_gas_at ⟨fun _ => q (.d .non), fun r _ => q r, fun _ => False, fun _ => False, fun c _ => x c⟩ (startE N_fewest_throws ds)) : CallD P w K mg base T (k + 1) "fewest_throws" p_fewest_throws sp :=
  ⟨fa, fd, fn_ok F sc_fewest_throws len (fun cdv A outer s H E hr => d_fewest_throws Z c_hours_of c_gas_at cdv A outer s H E hr) hsp, hm, F.kp, hb⟩
/-! _law_draws -/
abbrev s__law_draws : Stmt := topS 18
abbrev N__law_draws : List Str := ["script", "draws", "cell", "number", "first", "k", "seed"]
abbrev p__law_draws : List Str := ["script"]
theorem sc__law_draws : FnScope N__law_draws p__law_draws (defScope s__law_draws) := ⟨rfl, rfl, rfl, by decide +kernel, rfl, by decide +kernel, by decide +kernel⟩
def T__law_draws : ST := (sSeq (sSet 1 (tLst' aNil))
    (sSeq (sFor (iSeqD (tV 0)) (gVar 2) (sSeq (sSet 3 (tC' fAbs (aCons (tV 2) aNil)))
    (sSeq (sIf (tT (t2 (fLt) (tV 3) (t2 fPow (tK (.int 10)) (tK (.int 18))))) (sSeq (sSet 4 (t2 fMod (tC' fInt1 (aCons (t2 fAdd (t2 fMul (tV 3) (tK (.int 48271))) (tK (.int 11))) aNil)) (tK (.int 2147483647))))
    (sSeq (sExpr (tAppend (tV 1) (aCons (t2 fMod (tC' fInt1 (aCons (t2 fAdd (t2 fMul (tV 4) (tK (.int 69621))) (tV 3)) aNil)) (tK (.int 2147483629))) aNil)))
    (sSeq (sExpr (tAppend (tV 1) (aCons (t2 fMod (tC' fInt1 (aCons (t2 fAdd (tV 4) (t2 fDiv (tV 3) (tK (.int 7)))) aNil)) (tK (.int 1000003))) aNil)))
    (sSet 3 (tK (.int 0)))))) sNext)
    (sFor (iR1 (aCons (tK (.int 60)) aNil)) (gVar 5) (sIf (tT (t2 (fGt) (tV 3) (tK (.int 0)))) (sSeq (sExpr (tAppend (tV 1) (aCons (t2 fMod (tC' fInt1 (aCons (tV 3) aNil)) (tK (.int 997))) aNil)))
    (sSet 3 (t2 fDiv (tV 3) (tK (.int 997))))) sNext)))))
    (sSeq (sSet 6 (tK (.int 1)))
    (sSeq (sIf (tT (t2 (fGt) (tC' fLen (aCons (tV 0) aNil)) (tK (.int 0)))) (sSet 6 (t2 fAdd (tK (.int 1)) (tC' fAbs (aCons (t2 fIx (tV 0) (tK (.int 0))) aNil)))) sNext)
    (sSeq (sFor (iR1 (aCons (tK (.int 900)) aNil)) (gVar 5) (sSeq (sSet 6 (t2 fMod (tC' fInt1 (aCons (t2 fAdd (t2 fMul (tV 6) (tK (.int 48271))) (tK (.int 69621))) aNil)) (tK (.int 2147483647))))
    (sExpr (tAppend (tV 1) (aCons (t2 fDiv (tV 6) (tK (.int 5))) aNil)))))
    (sRet (t1 fLRev (tV 1))))))))
theorem d__law_draws {P : Program} {w : World} {K : PySem.W.Frag} {mg : Str → Option Value} {base : Heap} {T : Addr → Prop} {k : Nat} (Z : Top K mg) {fa : Addr} (cdv : Value) (A : Around) (outer : List Env) (s : Shared) (H : Hp) (E : XK)
    (hr : Room k (A.deeper (envOfC "_law_draws" (defScope s__law_draws) s.heap.objs.size fa cdv))) :
    DSs (cxOf (L2N.CX P w) P w K mg base N__law_draws "_law_draws" (defScope s__law_draws) fa cdv A outer s H E) ⟨none, T⟩ (fun c d _ H => E c d H) (defBody s__law_draws) (T__law_draws) :=
  (dss_cons (ds_set (i := 1) sc__law_draws.nd rfl (.inl rfl) (de_lst da_nil))
    (dss_cons (ds_for (L2.passes_of rfl) rfl (di_seq (de_v 0)) (dg_name (i := 2) sc__law_draws.nd rfl (.inl rfl)) (dss_cons (ds_set (i := 3) sc__law_draws.nd rfl (.inl rfl) (de_abs Z.b_abs (de_v 2)))
    (dss_cons (ds_if (db_lt (de_v 3) (de_pow de_int de_int)) (dss_cons (ds_set (i := 4) sc__law_draws.nd rfl (.inl rfl) (de_mod (de_int1 Z.b_int (de_add (de_mul (de_v 3) de_int) de_int)) de_int))
    (dss_cons (ds_expr (de_append (de_v 1) (da_cons (de_mod (de_int1 Z.b_int (de_add (de_mul (de_v 4) de_int) (de_v 3))) de_int) da_nil)))
    (dss_cons (ds_expr (de_append (de_v 1) (da_cons (de_mod (de_int1 Z.b_int (de_add (de_v 4) (de_div (de_v 3) de_int))) de_int) da_nil)))
    (dss_one (ds_set (i := 3) sc__law_draws.nd rfl (.inl rfl) de_int))))) dss_nil)
    (dss_one (ds_for (L2.passes_of rfl) rfl (di_range1 Z.b_range (da_cons de_int da_nil)) (dg_name (i := 5) sc__law_draws.nd rfl (.inl rfl)) (dss_one (ds_if (db_gt (de_v 3) de_int) (dss_cons (ds_expr (de_append (de_v 1) (da_cons (de_mod (de_int1 Z.b_int (de_v 3)) de_int) da_nil)))
    (dss_one (ds_set (i := 3) sc__law_draws.nd rfl (.inl rfl) (de_div (de_v 3) de_int)))) dss_nil)))))))
    (dss_cons (ds_set (i := 6) sc__law_draws.nd rfl (.inl rfl) de_int)
    (dss_cons (ds_if (db_gt (de_len Z.b_len (de_v 0)) de_int) (dss_one (ds_set (i := 6) sc__law_draws.nd rfl (.inl rfl) (de_add de_int (de_abs Z.b_abs (de_ix (de_v 0) de_int (fun _ _ => rfl)))))) dss_nil)
    (dss_cons (ds_for (L2.passes_of rfl) rfl (di_range1 Z.b_range (da_cons de_int da_nil)) (dg_name (i := 5) sc__law_draws.nd rfl (.inl rfl)) (dss_cons (ds_set (i := 6) sc__law_draws.nd rfl (.inl rfl) (de_mod (de_int1 Z.b_int (de_add (de_mul (de_v 6) de_int) de_int)) de_int))
    (dss_one (ds_expr (de_append (de_v 1) (da_cons (de_div (de_v 6) de_int) da_nil))))))
    (dss_one (ds_ret (de_lrev rfl Z.b_list Z.b_reversed (de_v 1)))))))))
theorem ok__law_draws {P : Program} {w : World} {K : PySem.W.Frag} {mg : Str → Option Value} {base : Heap} {T : Addr → Prop} {k : Nat} (Z : Top K mg) {fa : Addr} {fd : FuncData} (F : Fun K "_law_draws" "_law_draws" s__law_draws fa fd) (hm : mg "_law_draws" = some (.ref fa)) (hb : Binds K fd p__law_draws []) {sp : PSp} (len : ∀ ds q x, sp ds q x → ds.length = 1)
    (hsp : ∀ ds q x, sp ds q x → T__law_draws ⟨fun _ => q (.d .non), fun r _ => q r, fun _ => False, fun _ => False, fun c _ => x c⟩ (startE N__law_draws ds)) : CallD P w K mg base T (k + 1) "_law_draws" p__law_draws sp :=
  ⟨fa, fd, fn_ok F sc__law_draws len (fun cdv A outer s H E hr => d__law_draws Z cdv A outer s H E hr) hsp, hm, F.kp, hb⟩
/-! _law_take -/
abbrev s__law_take : Stmt := topS 19
abbrev N__law_take : List Str := ["draws", "bound"]
abbrev p__law_take : List Str := ["draws", "bound"]
theorem sc__law_take : FnScope N__law_take p__law_take (defScope s__law_take) := ⟨rfl, rfl, rfl, by decide +kernel, rfl, by decide +kernel, by decide +kernel⟩
def T__law_take : ST := (sSeq (sIf (tT (t2 (fEq) (tC' fLen (aCons (tV 0) aNil)) (tK (.int 0)))) (sRet (tK (.int 0))) sNext)
    (sRet (t2 fMod (tC' fInt1 (aCons (tPop (tV 0)) aNil)) (tV 1))))
theorem d__law_take {P : Program} {w : World} {K : PySem.W.Frag} {mg : Str → Option Value} {base : Heap} {T : Addr → Prop} {k : Nat} (Z : Top K mg) {fa : Addr} (p : Addr) (cdv : Value) (A : Around) (outer : List Env) (s : Shared) (H : Hp) (E : XK)
    (hr : Room k (A.deeper (envOfC "_law_take" (defScope s__law_take) s.heap.objs.size fa cdv))) :
    DSs (cxOf (L2N.CX P w) P w K mg base N__law_take "_law_take" (defScope s__law_take) fa cdv A outer s H E) ⟨some p, T⟩ (fun c d _ H => E c d H) (defBody s__law_take) (T__law_take) :=
  (dss_cons (ds_if (db_eq hr (de_len Z.b_len (de_v 0)) de_int) (dss_one (ds_ret de_int)) dss_nil)
    (dss_one (ds_ret (de_mod (de_int1 Z.b_int (de_pop (de_v 0))) (de_v 1)))))
theorem ok__law_take {P : Program} {w : World} {K : PySem.W.Frag} {mg : Str → Option Value} {base : Heap} {T : Addr → Prop} {k : Nat} (Z : Top K mg) {fa : Addr} {fd : FuncData} (F : Fun K "_law_take" "_law_take" s__law_take fa fd) (hm : mg "_law_take" = some (.ref fa)) (hb : Binds K fd p__law_take []) {sp : PSpIO} (len : ∀ d ds q x, sp d ds q x → ds.length + 1 = 2)
    (hsp : ∀ d ds q x, sp d ds q x → T__law_take ⟨fun ρ => some! (ioS ρ[0]?) fun y => q (.d .non) y, fun r ρ => some! (ioS ρ[0]?) fun y => q r y, fun _ => False, fun _ => False, fun c ρ => some! (ioS ρ[0]?) fun y => x c y⟩ (startIO N__law_take d ds)) : CallIO P w K mg base T (k + 1) "_law_take" p__law_take sp :=
  ⟨fa, fd, fn_okIO F sc__law_take len (fun p cdv A outer s H E hr => d__law_take Z p cdv A outer s H E hr) hsp, hm, F.kp, hb⟩
/-! _law_says -/
abbrev s__law_says : Stmt := topS 20
abbrev N__law_says : List Str := ["told", "due"]
abbrev p__law_says : List Str := ["told", "due"]
theorem sc__law_says : FnScope N__law_says p__law_says (defScope s__law_says) := ⟨rfl, rfl, rfl, by decide +kernel, rfl, by decide +kernel, by decide +kernel⟩
def T__law_says : ST := (sRet (tAnd' (t1 (fIsi .bool) (tV 0)) (t2 (fEq) (tV 0) (tV 1))))
theorem d__law_says {P : Program} {w : World} {K : PySem.W.Frag} {mg : Str → Option Value} {base : Heap} {T : Addr → Prop} {k : Nat} (Z : Top K mg) {fa : Addr} (cdv : Value) (A : Around) (outer : List Env) (s : Shared) (H : Hp) (E : XK)
    (hr : Room k (A.deeper (envOfC "_law_says" (defScope s__law_says) s.heap.objs.size fa cdv))) :
    DSs (cxOf (L2N.CX P w) P w K mg base N__law_says "_law_says" (defScope s__law_says) fa cdv A outer s H E) ⟨none, T⟩ (fun c d _ H => E c d H) (defBody s__law_says) (T__law_says) :=
  (dss_one (ds_ret (de_and (de_isi .bool Z.b_isinstance Z.b_bool (by decide +kernel) (de_v 0)) (de_one (de_eq hr (de_v 0) (de_v 1))))))
theorem ok__law_says {P : Program} {w : World} {K : PySem.W.Frag} {mg : Str → Option Value} {base : Heap} {T : Addr → Prop} {k : Nat} (Z : Top K mg) {fa : Addr} {fd : FuncData} (F : Fun K "_law_says" "_law_says" s__law_says fa fd) (hm : mg "_law_says" = some (.ref fa)) (hb : Binds K fd p__law_says []) {sp : PSp} (len : ∀ ds q x, sp ds q x → ds.length = 2)
    (hsp : ∀ ds q x, sp ds q x → T__law_says ⟨fun _ => q (.d .non), fun r _ => q r, fun _ => False, fun _ => False, fun c _ => x c⟩ (startE N__law_says ds)) : CallD P w K mg base T (k + 1) "_law_says" p__law_says sp :=
  ⟨fa, fd, fn_ok F sc__law_says len (fun cdv A outer s H E hr => d__law_says Z cdv A outer s H E hr) hsp, hm, F.kp, hb⟩
/-! _law_alike -/
abbrev s__law_alike : Stmt := topS 21
abbrev N__law_alike : List Str := ["found", "due", "k"]
abbrev p__law_alike : List Str := ["found", "due"]
theorem sc__law_alike : FnScope N__law_alike p__law_alike (defScope s__law_alike) := ⟨rfl, rfl, rfl, by decide +kernel, rfl, by decide +kernel, by decide +kernel⟩
def T__law_alike (sp__law_alike : PSp) : ST := (sSeq (sIf (bOr (tTr (t1 (fIsi .list) (tV 1))) (tTr (t1 (fIsi .tuple) (tV 1)))) (sSeq (sIf (bOr (tT (t2 (fNe) (t1 (fIsi .list) (tV 0)) (t1 (fIsi .list) (tV 1)))) (tT (t2 (fNe) (t1 (fIsi .tuple) (tV 0)) (t1 (fIsi .tuple) (tV 1))))) (sRet (tK (.bl false))) sNext)
    (sRet (tAnd' (t2 (fEq) (tC' fLen (aCons (tV 0) aNil)) (tC' fLen (aCons (tV 1) aNil))) (t2 (fEq) (tLc' (iR1 (aCons (tC' fLen (aCons (tV 1) aNil)) aNil)) (gVar 2) (bNot (tTr (tCall' sp__law_alike (aCons (t2 fIx (tV 0) (tV 2)) (aCons (t2 fIx (tV 1) (tV 2)) aNil))))) (tV 2) [2]) (tLst' aNil))))) sNext)
    (sSeq (sIf (tT (t2 (fIs false) (tV 1) (tK .non))) (sRet (t2 (fIs false) (tV 0) (tK .non))) sNext)
    (sSeq (sIf (bOr (tTr (t1 (fIsi .bool) (tV 1))) (tTr (t1 (fIsi .bool) (tV 0)))) (sRet (tAnd' (t1 (fIsi .bool) (tV 0)) (tAnd' (t1 (fIsi .bool) (tV 1)) (t2 (fEq) (tV 0) (tV 1))))) sNext)
    (sSeq (sIf (tTr (t1 (fIsi .int) (tV 1))) (sRet (tAnd' (t1 (fIsi .int) (tV 0)) (t2 (fEq) (tV 0) (tV 1)))) sNext)
    (sRet (tAnd' (t1 (fIsi .str) (tV 0)) (t2 (fEq) (tV 0) (tV 1))))))))
theorem d__law_alike {P : Program} {w : World} {K : PySem.W.Frag} {mg : Str → Option Value} {base : Heap} {T : Addr → Prop} {k : Nat} {sp__law_alike : PSp} (Z : Top K mg) (c__law_alike : CallD P w K mg base T k "_law_alike" p__law_alike sp__law_alike) {fa : Addr} (cdv : Value) (A : Around) (outer : List Env) (s : Shared) (H : Hp) (E : XK)
    (hr : Room k (A.deeper (envOfC "_law_alike" (defScope s__law_alike) s.heap.objs.size fa cdv))) :
    DSs (cxOf (L2N.CX P w) P w K mg base N__law_alike "_law_alike" (defScope s__law_alike) fa cdv A outer s H E) ⟨none, T⟩ (fun c d _ H => E c d H) (defBody s__law_alike) (T__law_alike sp__law_alike) :=
  (dss_cons (ds_if (dw_or (db_tru (de_isi .list Z.b_isinstance Z.b_list (by decide +kernel) (de_v 1))) (dw_or1 (db_tru (de_isi .tuple Z.b_isinstance Z.b_tuple (by decide +kernel) (de_v 1))))).toB (dss_cons (ds_if (dw_or (db_ne hr (de_isi .list Z.b_isinstance Z.b_list (by decide +kernel) (de_v 0)) (de_isi .list Z.b_isinstance Z.b_list (by decide +kernel) (de_v 1))) (dw_or1 (db_ne hr (de_isi .tuple Z.b_isinstance Z.b_tuple (by decide +kernel) (de_v 0)) (de_isi .tuple Z.b_isinstance Z.b_tuple (by decide +kernel) (de_v 1))))).toB (dss_one (ds_ret de_bl)) dss_nil)
    (dss_one (ds_ret (de_and (de_eq hr (de_len Z.b_len (de_v 0)) (de_len Z.b_len (de_v 1))) (de_one (de_eq hr (de_lc' rfl sc__law_alike.nd (di_range1 Z.b_range (da_cons (de_len Z.b_len (de_v 1)) da_nil)) (blkOk_by (N := N__law_alike) (sc := (defScope s__law_alike)) (own := [("k", 2)]) (by decide +kernel)) (fun _ _ _ _ _ => (dg_name (i := 2) sc__law_alike.nd rfl (.inl rfl))) (fun _ _ _ _ _ => (dts_one (db_not (db_tru (de_c c__law_alike (takesNo rfl) hr (da_cons (de_ix (de_v 0) (de_v 2) (fun _ _ => rfl)) (da_cons (de_ix (de_v 1) (de_v 2) (fun _ _ => rfl)) da_nil))))))) (fun _ _ _ _ _ => (de_v 2)) (by decide)) (de_lst da_nil))))))) dss_nil)
    (dss_cons (ds_if (db_is (de_v 1) de_non) (dss_one (ds_ret (de_is (de_v 0) de_non))) dss_nil)
    (dss_cons (ds_if (dw_or (db_tru (de_isi .bool Z.b_isinstance Z.b_bool (by decide +kernel) (de_v 1))) (dw_or1 (db_tru (de_isi .bool Z.b_isinstance Z.b_bool (by decide +kernel) (de_v 0))))).toB (dss_one (ds_ret (de_and (de_isi .bool Z.b_isinstance Z.b_bool (by decide +kernel) (de_v 0)) (de_and (de_isi .bool Z.b_isinstance Z.b_bool (by decide +kernel) (de_v 1)) (de_one (de_eq hr (de_v 0) (de_v 1))))))) dss_nil)
    (dss_cons (ds_if (db_tru (de_isi .int Z.b_isinstance Z.b_int (by decide +kernel) (de_v 1))) (dss_one (ds_ret (de_and (de_isi .int Z.b_isinstance Z.b_int (by decide +kernel) (de_v 0)) (de_one (de_eq hr (de_v 0) (de_v 1)))))) dss_nil)
    (dss_one (ds_ret (de_and (de_isi .str Z.b_isinstance Z.b_str (by decide +kernel) (de_v 0)) (de_one (de_eq hr (de_v 0) (de_v 1))))))))))
theorem ok__law_alike {P : Program} {w : World} {K : PySem.W.Frag} {mg : Str → Option Value} {base : Heap} {T : Addr → Prop} {k : Nat} {sp__law_alike : PSp} (Z : Top K mg) (c__law_alike : CallD P w K mg base T k "_law_alike" p__law_alike sp__law_alike) {fa : Addr} {fd : FuncData} (F : Fun K "_law_alike" "_law_alike" s__law_alike fa fd) (hm : mg "_law_alike" = some (.ref fa)) (hb : Binds K fd p__law_alike []) {sp : PSp} (len : ∀ ds q x, sp ds q x → ds.length = 2)
    (hsp : ∀ ds q x, sp ds q x → T__law_alike sp__law_alike ⟨fun _ => q (.d .non), fun r _ => q r, fun _ => False, fun _ => False, fun c _ => x c⟩ (startE N__law_alike ds)) : CallD P w K mg base T (k + 1) "_law_alike" p__law_alike sp :=
  ⟨fa, fd, fn_ok F sc__law_alike len (fun cdv A outer s H E hr => d__law_alike Z c__law_alike cdv A outer s H E hr) hsp, hm, F.kp, hb⟩
/-! _law_gas -/
abbrev s__law_gas : Stmt := topS 22
abbrev N__law_gas : List Str := ["balloon", "row"]
abbrev p__law_gas : List Str := ["balloon"]
theorem sc__law_gas : FnScope N__law_gas p__law_gas (defScope s__law_gas) := ⟨rfl, rfl, rfl, by decide +kernel, rfl, by decide +kernel, by decide +kernel⟩
def T__law_gas : ST := (sSeq (sSet 1 (tLst' (aCons (t2 fIx (tV 0) (tK (.int 0))) aNil)))
    (sSeq (sWhile (tT (t2 (fGt) (t2 fIx (tV 1) (t1 fNeg (tK (.int 1)))) (tK (.int 0)))) (sExpr (tAppend (tV 1) (aCons (t2 fSub (t2 fIx (tV 1) (t1 fNeg (tK (.int 1)))) (t2 fDiv (t2 fSub (t2 fAdd (t2 fIx (tV 1) (t1 fNeg (tK (.int 1)))) (t2 fIx (tV 0) (tK (.int 1)))) (tK (.int 1))) (t2 fIx (tV 0) (tK (.int 1))))) aNil))))
    (sRet (tV 1))))
theorem d__law_gas {P : Program} {w : World} {K : PySem.W.Frag} {mg : Str → Option Value} {base : Heap} {T : Addr → Prop} {k : Nat} (Z : Top K mg) {fa : Addr} (cdv : Value) (A : Around) (outer : List Env) (s : Shared) (H : Hp) (E : XK)
    (hr : Room k (A.deeper (envOfC "_law_gas" (defScope s__law_gas) s.heap.objs.size fa cdv))) :
    DSs (cxOf (L2N.CX P w) P w K mg base N__law_gas "_law_gas" (defScope s__law_gas) fa cdv A outer s H E) ⟨none, T⟩ (fun c d _ H => E c d H) (defBody s__law_gas) (T__law_gas) :=
  (dss_cons (ds_set (i := 1) sc__law_gas.nd rfl (.inl rfl) (de_lst (da_cons (de_ix (de_v 0) de_int (fun _ _ => rfl)) da_nil)))
    (dss_cons (ds_while (L2.passes_of rfl) (db_gt (de_ix (de_v 1) (de_neg de_int) (fun _ _ => rfl)) de_int) (dss_one (ds_expr (de_append (de_v 1) (da_cons (de_sub (de_ix (de_v 1) (de_neg de_int) (fun _ _ => rfl)) (de_div (de_sub (de_add (de_ix (de_v 1) (de_neg de_int) (fun _ _ => rfl)) (de_ix (de_v 0) de_int (fun _ _ => rfl))) de_int) (de_ix (de_v 0) de_int (fun _ _ => rfl)))) da_nil)))))
    (dss_one (ds_ret (de_v 1)))))
theorem ok__law_gas {P : Program} {w : World} {K : PySem.W.Frag} {mg : Str → Option Value} {base : Heap} {T : Addr → Prop} {k : Nat} (Z : Top K mg) {fa : Addr} {fd : FuncData} (F : Fun K "_law_gas" "_law_gas" s__law_gas fa fd) (hm : mg "_law_gas" = some (.ref fa)) (hb : Binds K fd p__law_gas []) {sp : PSp} (len : ∀ ds q x, sp ds q x → ds.length = 1)
    (hsp : ∀ ds q x, sp ds q x → T__law_gas ⟨fun _ => q (.d .non), fun r _ => q r, fun _ => False, fun _ => False, fun c _ => x c⟩ (startE N__law_gas ds)) : CallD P w K mg base T (k + 1) "_law_gas" p__law_gas sp :=
  ⟨fa, fd, fn_ok F sc__law_gas len (fun cdv A outer s H E hr => d__law_gas Z cdv A outer s H E hr) hsp, hm, F.kp, hb⟩
/-! _law_fly -/
abbrev s__law_fly : Stmt := topS 23
abbrev N__law_fly : List Str := ["balloon", "gas", "part", "weight", "bags", "row", "left", "thrown", "rows", "hour", "k", "enough"]
abbrev p__law_fly : List Str := ["balloon"]
theorem sc__law_fly : FnScope N__law_fly p__law_fly (defScope s__law_fly) := ⟨rfl, rfl, rfl, by decide +kernel, rfl, by decide +kernel, by decide +kernel⟩
def T__law_fly (sp__law_gas : PSp) : ST := (sSeq (sAsg (tV 0) (gTupD 4 (gsCons (gVar 1) (gsCons (gVar 2) (gsCons (gVar 3) (gsCons (gVar 4) gsNil))))))
    (sSeq (sPar4 5 6 7 8 (tCall' sp__law_gas (aCons (tV 0) aNil)) (tC' fSortedT (aCons (tV 4) aNil)) (tLst' aNil) (tLst' aNil))
    (sSeq (sFor (iR1 (aCons (tC' fLen (aCons (tV 5) aNil)) aNil)) (gVar 9) (sSeq (sWhile (bAnd (tT (t2 (fNe) (tV 6) (tLst' aNil))) (tT (t2 (fLt) (t2 fIx (tV 5) (tV 9)) (t2 fAdd (tV 3) (tC' fSumA (aCons (tV 6) aNil)))))) (sSeq (sSet 11 (tLc' (iR1 (aCons (tC' fLen (aCons (tV 6) aNil)) aNil)) (gVar 10) (tT (t2 (fGe) (t2 fIx (tV 5) (tV 9)) (t2 fSub (t2 fAdd (tV 3) (tC' fSumA (aCons (tV 6) aNil))) (t2 fIx (tV 6) (tV 10))))) (tV 10) [10]))
    (sSeq (sSet 10 (tIf' (tT (t2 (fNe) (tV 11) (tLst' aNil))) (t2 fIx (tV 11) (tK (.int 0))) (t2 fSub (tC' fLen (aCons (tV 6) aNil)) (tK (.int 1)))))
    (sSeq (sExpr (tAppend (tV 7) (aCons (tTup' (aCons (tV 9) (aCons (t2 fIx (tV 6) (tV 10)) aNil))) aNil)))
    (sSet 6 (t2 fAdd (tSl' (tV 6) oNone (oSome (tV 10))) (tSl' (tV 6) (oSome (t2 fAdd (tV 10) (tK (.int 1)))) oNone)))))))
    (sExpr (tAppend (tV 8) (aCons (tC' fTuple (aCons (tV 6) aNil)) aNil)))))
    (sRet (tTup' (aCons (tV 7) (aCons (tV 8) aNil)))))))
theorem d__law_fly {P : Program} {w : World} {K : PySem.W.Frag} {mg : Str → Option Value} {base : Heap} {T : Addr → Prop} {k : Nat} {sp__law_gas : PSp} (Z : Top K mg) (c__law_gas : CallD P w K mg base T k "_law_gas" p__law_gas sp__law_gas) {fa : Addr} (cdv : Value) (A : Around) (outer : List Env) (s : Shared) (H : Hp) (E : XK)
    (hr : Room k (A.deeper (envOfC "_law_fly" (defScope s__law_fly) s.heap.objs.size fa cdv))) :
    DSs (cxOf (L2N.CX P w) P w K mg base N__law_fly "_law_fly" (defScope s__law_fly) fa cdv A outer s H E) ⟨none, T⟩ (fun c d _ H => E c d H) (defBody s__law_fly) (T__law_fly sp__law_gas) :=
  (dss_cons (ds_asg (de_v 0) (dg_tup rfl (dgs_cons (dg_name (i := 1) sc__law_fly.nd rfl (.inl rfl)) (dgs_cons (dg_name (i := 2) sc__law_fly.nd rfl (.inl rfl)) (dgs_cons (dg_name (i := 3) sc__law_fly.nd rfl (.inr rfl)) (dgs_cons (dg_name (i := 4) sc__law_fly.nd rfl (.inl rfl)) dgs_nil))))))
    (dss_cons (ds_par4 (i := 5) (j := 6) (l := 7) (m := 8) rfl sc__law_fly.nd rfl rfl rfl rfl (.inr rfl) (.inr rfl) (.inl rfl) (.inl rfl) (de_c c__law_gas (L2N.takes_of rfl rfl rfl rfl) hr (da_cons (de_v 0) da_nil)) (de_sortedT Z.b_sorted (de_v 4)) (de_lst da_nil) (de_lst da_nil))
    (dss_cons (ds_for (L2.passes_of rfl) rfl (di_range1 Z.b_range (da_cons (de_len Z.b_len (de_v 5)) da_nil)) (dg_name (i := 9) sc__law_fly.nd rfl (.inr rfl)) (dss_cons (ds_while (L2.passes_of rfl) (dw_and (db_ne hr (de_v 6) (de_lst da_nil)) (dw_and1 (db_lt (de_ix (de_v 5) (de_v 9) (fun _ _ => rfl)) (de_add (de_v 3) (de_sumA rfl Z.b_sum (de_v 6)))))).toB (dss_cons (ds_setLc' (i := 11) rfl sc__law_fly.nd rfl rfl (sw_true rfl rfl rfl (by decide +kernel)) (di_range1 Z.b_range (da_cons (de_len Z.b_len (de_v 6)) da_nil)) (blkOk_by (N := N__law_fly) (sc := (defScope s__law_fly)) (own := [("k", 10)]) (by decide +kernel)) (fun _ _ _ _ _ => (dg_name (i := 10) sc__law_fly.nd rfl (.inl rfl))) (fun _ _ _ _ _ => (dts_one (db_ge (de_ix (de_v 5) (de_v 9) (fun _ _ => rfl)) (de_sub (de_add (de_v 3) (de_sumA rfl Z.b_sum (de_v 6))) (de_ix (de_v 6) (de_v 10) (fun _ _ => rfl)))))) (fun _ _ _ _ _ => (de_v 10)) (by decide))
    (dss_cons (ds_set (i := 10) sc__law_fly.nd rfl (.inl rfl) (de_if (db_ne hr (de_v 11) (de_lst da_nil)) (de_ix (de_v 11) de_int (fun _ _ => rfl)) (de_sub (de_len Z.b_len (de_v 6)) de_int)))
    (dss_cons (ds_expr (de_append (de_v 7) (da_cons (de_tup (da_cons (de_v 9) (da_cons (de_ix (de_v 6) (de_v 10) (fun _ _ => rfl)) da_nil))) da_nil)))
    (dss_one (ds_set (i := 6) sc__law_fly.nd rfl (.inr rfl) (de_add (de_slice (de_v 6) do_none (do_some (de_v 10))) (de_slice (de_v 6) (do_some (de_add (de_v 10) de_int)) do_none))))))))
    (dss_one (ds_expr (de_append (de_v 8) (da_cons (de_tuple Z.b_tuple (de_v 6)) da_nil))))))
    (dss_one (ds_ret (de_tup (da_cons (de_v 7) (da_cons (de_v 8) da_nil))))))))
theorem ok__law_fly {P : Program} {w : World} {K : PySem.W.Frag} {mg : Str → Option Value} {base : Heap} {T : Addr → Prop} {k : Nat} {sp__law_gas : PSp} (Z : Top K mg) (c__law_gas : CallD P w K mg base T k "_law_gas" p__law_gas sp__law_gas) {fa : Addr} {fd : FuncData} (F : Fun K "_law_fly" "_law_fly" s__law_fly fa fd) (hm : mg "_law_fly" = some (.ref fa)) (hb : Binds K fd p__law_fly []) {sp : PSp} (len : ∀ ds q x, sp ds q x → ds.length = 1)
    (hsp : ∀ ds q x, sp ds q x → T__law_fly sp__law_gas ⟨fun _ => q (.d .non), fun r _ => q r, fun _ => False, fun _ => False, fun c _ => x c⟩ (startE N__law_fly ds)) : CallD P w K mg base T (k + 1) "_law_fly" p__law_fly sp :=
  ⟨fa, fd, fn_ok F sc__law_fly len (fun cdv A outer s H E hr => d__law_fly Z c__law_gas cdv A outer s H E hr) hsp, hm, F.kp, hb⟩
/-! law -/
abbrev s_law : Stmt := topS 24
abbrev N_law : List Str := ["script", "draws", "gas", "part", "weight", "bag", "bags", "balloon", "row", "thrown", "rows", "hour", "low", "down", "other", "after", "kept", "last", "few", "odd", "k", "some", "value"]
abbrev p_law : List Str := ["script"]
theorem sc_law : FnScope N_law p_law (defScope s_law) := ⟨rfl, rfl, rfl, by decide +kernel, rfl, by decide +kernel, by decide +kernel⟩
def T_law (sp__law_draws : PSp) (sp__law_take : PSpIO) (sp__law_gas : PSp) (sp__law_fly : PSp) (sp__law_says : PSp) (sp_is_balloon : PSp) (sp__law_alike : PSp) (sp_hours_of : PSp) (sp_thrown_by : PSp) (sp_gas_at : PSp) (sp_bags_at : PSp) (sp_fewest_throws : PSp) : ST := (sSeq (sSet 1 (tCall' sp__law_draws (aCons (tV 0) aNil)))
    (sSeq (sPar 2 3 (t2 fAdd (tK (.int 1)) (tCallIO sp__law_take (aCons (tV 1) (aCons (t2 fIx (tLst' (aCons (tK (.int 20)) (aCons (tK (.int 200)) (aCons (tK (.int 1000)) aNil)))) (tCallIO sp__law_take (aCons (tV 1) (aCons (tK (.int 3)) aNil)))) aNil)))) (t2 fAdd (tK (.int 2)) (tCallIO sp__law_take (aCons (tV 1) (aCons (t2 fIx (tLst' (aCons (tK (.int 3)) (aCons (tK (.int 19)) aNil))) (tCallIO sp__law_take (aCons (tV 1) (aCons (tK (.int 2)) aNil)))) aNil)))))
    (sSeq (sSet 4 (t2 fIx (tLst' (aCons (tK (.int 0)) (aCons (tCallIO sp__law_take (aCons (tV 1) (aCons (tK (.int 30)) aNil))) (aCons (tCallIO sp__law_take (aCons (tV 1) (aCons (tK (.int 501)) aNil))) aNil)))) (tCallIO sp__law_take (aCons (tV 1) (aCons (tK (.int 3)) aNil)))))
    (sSeq (sSet 6 (tC' fTuple (aCons (tLc' (iR1 (aCons (tCallIO sp__law_take (aCons (tV 1) (aCons (tK (.int 7)) aNil))) aNil)) (gVar 5) bYes (t2 fAdd (tK (.int 1)) (tCallIO sp__law_take (aCons (tV 1) (aCons (t2 fIx (tLst' (aCons (tK (.int 9)) (aCons (tK (.int 100)) aNil))) (tCallIO sp__law_take (aCons (tV 1) (aCons (tK (.int 2)) aNil)))) aNil)))) [5]) aNil)))
    (sSeq (sSet 7 (tTup' (aCons (tV 2) (aCons (tV 3) (aCons (tV 4) (aCons (tV 6) aNil))))))
    (sSeq (sSet 8 (tCall' sp__law_gas (aCons (tV 7) aNil)))
    (sSeq (sAsg (tCall' sp__law_fly (aCons (tV 7) aNil)) (gTupD 2 (gsCons (gVar 9) (gsCons (gVar 10) gsNil))))
    (sSeq (sSet 12 (tLc' (iR1 (aCons (tC' fLen (aCons (tV 8) aNil)) aNil)) (gVar 11) (tT (t2 (fLt) (t2 fIx (tV 8) (tV 11)) (tV 4))) (tV 11) [11]))
    (sSeq (sSet 13 (tIf' (tT (t2 (fNe) (tV 12) (tLst' aNil))) (t2 fIx (tV 12) (tK (.int 0))) (tK .non)))
    (sSeq (sIf (bOr (bNot (tTr (tCall' sp__law_says (aCons (tCall' sp_is_balloon (aCons (tV 7) aNil)) (aCons (tK (.bl true)) aNil))))) (bOr (bNot (tTr (tCall' sp__law_alike (aCons (tLst' (aCons (tCall' sp_hours_of (aCons (tV 7) aNil)) (aCons (tCall' sp_thrown_by (aCons (tV 7) aNil)) aNil))) (aCons (tLst' (aCons (tV 13) (aCons (tC' fTuple (aCons (tV 9) aNil)) aNil))) aNil))))) (tT (t2 (fNe) (t2 (fIs false) (tV 13) (tK .non)) (t2 (fEq) (tV 4) (tK (.int 0))))))) (sRet (tK (.bl false))) sNext)
    (sSeq (sFor (iSeqD (t2 fAdd (tLRg3 (aCons (tK (.int 0)) (aCons (tC' fLen (aCons (tV 8) aNil)) (aCons (tK (.int 3)) aNil)))) (tLst' (aCons (tC' fLen (aCons (tV 8) aNil)) (aCons (t2 fPow (tK (.int 10)) (tK (.int 30))) aNil))))) (gVar 11) (sIf (bNot (tTr (tCall' sp__law_alike (aCons (tLst' (aCons (tCall' sp_gas_at (aCons (tV 7) (aCons (tV 11) aNil))) (aCons (tCall' sp_bags_at (aCons (tV 7) (aCons (tV 11) aNil))) aNil))) (aCons (tLst' (aCons (t2 fIx (tV 8) (tC' fMin2 (aCons (tV 11) (aCons (t2 fSub (tC' fLen (aCons (tV 8) aNil)) (tK (.int 1))) aNil)))) (aCons (t2 fIx (tV 10) (tC' fMin2 (aCons (tV 11) (aCons (t2 fSub (tC' fLen (aCons (tV 8) aNil)) (tK (.int 1))) aNil)))) aNil))) aNil))))) (sRet (tK (.bl false))) sNext))
    (sSeq (sIf (bOr (tT (t2 (fNe) (tLc' (iR2 (aCons (tK (.int 1)) (aCons (tC' fLen (aCons (tV 8) aNil)) aNil))) (gVar 20) (tT (t2 (fGe) (t2 fIx (tV 8) (tV 20)) (t2 fIx (tV 8) (t2 fSub (tV 20) (tK (.int 1)))))) (tV 20) [20]) (tLst' aNil))) (bOr (tT (t2 (fNe) (tCall' sp_hours_of (aCons (tTup' (aCons (tV 2) (aCons (tV 3) (aCons (tV 4) (aCons (tSl' (tV 6) (oSome (tK (.int 1))) oNone) aNil))))) aNil)) (tV 13))) (tT (t2 (fNe) (tCall' sp_hours_of (aCons (tTup' (aCons (tV 2) (aCons (tV 3) (aCons (tV 4) (aCons (t2 fAdd (tV 6) (tTup' (aCons (tK (.int 100)) aNil))) aNil))))) aNil)) (tV 13))))) (sRet (tK (.bl false))) sNext)
    (sSeq (sIf (tT (t2 (fNe) (tLc' (iR1 (aCons (tC' fLen (aCons (tV 8) aNil)) aNil)) (gVar 11) (bAnd (bOr (tT (t2 (fIs false) (tV 13) (tK .non))) (tT (t2 (fLt) (tV 11) (tV 13)))) (tT (t2 (fLt) (t2 fIx (tV 8) (tV 11)) (t2 fAdd (tV 4) (tC' fSumA (aCons (t2 fIx (tV 10) (tV 11)) aNil)))))) (tV 11) [11]) (tLst' aNil))) (sRet (tK (.bl false))) sNext)
    (sSeq (sFor (iSeqD (tLst' (aCons (tTup' (aCons (tC' fMin2 (aCons (tK (.int 1000)) (aCons (t2 fAdd (tV 2) (tK (.int 7))) aNil))) (aCons (tV 3) (aCons (tV 4) (aCons (tV 6) aNil))))) (aCons (tTup' (aCons (tV 2) (aCons (tC' fMin2 (aCons (tK (.int 20)) (aCons (t2 fAdd (tV 3) (tK (.int 1))) aNil))) (aCons (tV 4) (aCons (tV 6) aNil))))) (aCons (tTup' (aCons (tV 2) (aCons (tV 3) (aCons (tC' fMax2 (aCons (tK (.int 0)) (aCons (t2 fSub (tV 4) (tK (.int 1))) aNil))) (aCons (tV 6) aNil))))) aNil))))) (gVar 14) (sSeq (sSet 15 (tCall' sp_hours_of (aCons (tV 14) aNil)))
    (sIf (bAnd (tT (t2 (fIs true) (tV 13) (tK .non))) (bAnd (tT (t2 (fIs true) (tV 15) (tK .non))) (tT (t2 (fLt) (tV 15) (tV 13))))) (sRet (tK (.bl false))) sNext)))
    (sSeq (sSet 16 (tLst' (aCons (tTup' aNil) aNil)))
    (sSeq (sFor (iSeqD (tV 6)) (gVar 5) (sSet 16 (t2 fAdd (tV 16) (tLc' (iSeqD (tV 16)) (gVar 21) bYes (t2 fAdd (tV 21) (tTup' (aCons (tV 5) aNil))) [21]))))
    (sSeq (sSet 17 (tIf' (tT (t2 (fIs false) (tV 13) (tK .non))) (tK (.int 0)) (tIf' (tT (t2 (fGt) (tV 13) (tK (.int 0)))) (t2 fSub (t2 fIx (tV 8) (t2 fSub (tV 13) (tK (.int 1)))) (tV 4)) (tK .non))))
    (sSeq (sSet 18 (tIf' (tT (t2 (fIs false) (tV 17) (tK .non))) (tK (.int 0)) (t2 fSub (tC' fLen (aCons (tV 6) aNil)) (tC' fMaxA (aCons (tLc' (iSeqD (tV 16)) (gVar 21) (tT (t2 (fLe) (tC' fSumA (aCons (tV 21) aNil)) (tV 17))) (tC' fLen (aCons (tV 21) aNil)) [21]) aNil)))))
    (sSeq (sIf (bOr (bNot (tTr (tCall' sp__law_alike (aCons (tCall' sp_fewest_throws (aCons (tV 7) aNil)) (aCons (tV 18) aNil))))) (tT (t2 (fGt) (tV 18) (tC' fLen (aCons (tV 6) aNil))))) (sRet (tK (.bl false))) sNext)
    (sSeq (sSet 19 (tLst' (aCons (tK .non) (aCons (tC' fList (aCons (tV 7) aNil)) (aCons (tSl' (tV 7) oNone (oSome (tK (.int 3)))) (aCons (t2 fAdd (tV 7) (tTup' (aCons (tK (.int 0)) aNil))) (aCons (tTup' (aCons (tK (.int 0)) (aCons (tV 3) (aCons (tV 4) (aCons (tV 6) aNil))))) (aCons (tTup' (aCons (tK (.int 1001)) (aCons (tV 3) (aCons (tV 4) (aCons (tV 6) aNil))))) (aCons (tTup' (aCons (tV 2) (aCons (tK (.int 1)) (aCons (tV 4) (aCons (tV 6) aNil))))) (aCons (tTup' (aCons (tV 2) (aCons (tK (.int 21)) (aCons (tV 4) (aCons (tV 6) aNil))))) (aCons (tTup' (aCons (tV 2) (aCons (tV 3) (aCons (t1 fNeg (tK (.int 1))) (aCons (tV 6) aNil))))) (aCons (tTup' (aCons (tV 2) (aCons (tV 3) (aCons (tK (.int 501)) (aCons (tV 6) aNil))))) aNil))))))))))))
    (sSeq (sSet 19 (t2 fAdd (tV 19) (tLst' (aCons (tTup' (aCons (tV 2) (aCons (tV 3) (aCons (tV 4) (aCons (tK .non) aNil))))) (aCons (tTup' (aCons (tV 2) (aCons (tV 3) (aCons (tV 4) (aCons (tLst' (aCons (tK (.int 1)) aNil)) aNil))))) (aCons (tTup' (aCons (tV 2) (aCons (tV 3) (aCons (tV 4) (aCons (tTup' (aCons (tK (.int 0)) aNil)) aNil))))) (aCons (tTup' (aCons (tV 2) (aCons (tV 3) (aCons (tV 4) (aCons (tTup' (aCons (tK (.int 101)) aNil)) aNil))))) (aCons (tTup' (aCons (tV 2) (aCons (tV 3) (aCons (tV 4) (aCons (t2 fMul (tTup' (aCons (tK (.int 1)) aNil)) (tK (.int 11))) aNil))))) (aCons (tTup' (aCons (tK (.bl true)) (aCons (tV 3) (aCons (tV 4) (aCons (tV 6) aNil))))) (aCons (tTup' (aCons (tV 2) (aCons (tK .non) (aCons (tV 4) (aCons (tV 6) aNil))))) (aCons (tTup' (aCons (tV 2) (aCons (tV 3) (aCons (tV 4) (aCons (tTup' (aCons (tK .non) aNil)) aNil))))) aNil)))))))))))
    (sRet (t2 (fEq) (tLc' (iSeqD (tV 19)) (gVar 22) (tT (t2 (fIs true) (tCall' sp_is_balloon (aCons (tV 22) aNil)) (tK (.bl false)))) (tV 22) [22]) (tLst' aNil))))))))))))))))))))))))
theorem d_law {P : Program} {w : World} {K : PySem.W.Frag} {mg : Str → Option Value} {base : Heap} {T : Addr → Prop} {k : Nat} {sp__law_draws : PSp} {sp__law_take : PSpIO} {sp__law_gas : PSp} {sp__law_fly : PSp} {sp__law_says : PSp} {sp_is_balloon : PSp} {sp__law_alike : PSp} {sp_hours_of : PSp} {sp_thrown_by : PSp} {sp_gas_at : PSp} {sp_bags_at : PSp} {sp_fewest_throws : PSp} (Z : Top K mg) (c__law_draws : CallD P w K mg base T k "_law_draws" p__law_draws sp__law_draws) (c__law_take : CallIO P w K mg base T k "_law_take" p__law_take sp__law_take) (c__law_gas : CallD P w K mg base T k "_law_gas" p__law_gas sp__law_gas) (c__law_fly : CallD P w K mg base T k "_law_fly" p__law_fly sp__law_fly) (c__law_says : CallD P w K mg base T k "_law_says" p__law_says sp__law_says) (c_is_balloon : CallD P w K mg base T k "is_balloon" p_is_balloon sp_is_balloon) (c__law_alike : CallD P w K mg base T k "_law_alike" p__law_alike sp__law_alike) (c_hours_of : CallD P w K mg base T k "hours_of" p_hours_of sp_hours_of) (c_thrown_by : CallD P w K mg base T k "thrown_by" p_thrown_by sp_thrown_by) (c_gas_at : CallD P w K mg base T k "gas_at" p_gas_at sp_gas_at) (c_bags_at : CallD P w K mg base T k "bags_at" p_bags_at sp_bags_at) (c_fewest_throws : CallD P w K mg base T k "fewest_throws" p_fewest_throws sp_fewest_throws) {fa : Addr} (cdv : Value) (A : Around) (outer : List Env) (s : Shared) (H : Hp) (E : XK)
    (hr : Room k (A.deeper (envOfC "law" (defScope s_law) s.heap.objs.size fa cdv))) :
    DSs (cxOf (L2N.CX P w) P w K mg base N_law "law" (defScope s_law) fa cdv A outer s H E) ⟨none, T⟩ (fun c d _ H => E c d H) (defBody s_law) (T_law sp__law_draws sp__law_take sp__law_gas sp__law_fly sp__law_says sp_is_balloon sp__law_alike sp_hours_of sp_thrown_by sp_gas_at sp_bags_at sp_fewest_throws) :=
  (dss_cons (ds_set (i := 1) sc_law.nd rfl (.inr rfl) (de_c c__law_draws (L2N.takes_of rfl rfl rfl rfl) hr (da_cons (de_v 0) da_nil)))
    (dss_cons (ds_par (i := 2) (j := 3) rfl sc_law.nd rfl rfl (by decide) rfl rfl (de_add de_int (de_cIO c__law_take (L2N.takes_of rfl rfl rfl rfl) hr (da_cons (de_v 1) (da_cons (de_ix (de_lst (da_cons de_int (da_cons de_int (da_cons de_int da_nil)))) (de_cIO c__law_take (L2N.takes_of rfl rfl rfl rfl) hr (da_cons (de_v 1) (da_cons de_int da_nil))) (fun _ _ => rfl)) da_nil)))) (de_add de_int (de_cIO c__law_take (L2N.takes_of rfl rfl rfl rfl) hr (da_cons (de_v 1) (da_cons (de_ix (de_lst (da_cons de_int (da_cons de_int da_nil))) (de_cIO c__law_take (L2N.takes_of rfl rfl rfl rfl) hr (da_cons (de_v 1) (da_cons de_int da_nil))) (fun _ _ => rfl)) da_nil)))) (by rfl))
    (dss_cons (ds_set (i := 4) sc_law.nd rfl (.inr rfl) (de_ix (de_lst (da_cons de_int (da_cons (de_cIO c__law_take (L2N.takes_of rfl rfl rfl rfl) hr (da_cons (de_v 1) (da_cons de_int da_nil))) (da_cons (de_cIO c__law_take (L2N.takes_of rfl rfl rfl rfl) hr (da_cons (de_v 1) (da_cons de_int da_nil))) da_nil)))) (de_cIO c__law_take (L2N.takes_of rfl rfl rfl rfl) hr (da_cons (de_v 1) (da_cons de_int da_nil))) (fun _ _ => rfl)))
    (dss_cons (ds_set (i := 6) sc_law.nd rfl (.inl rfl) (de_tuple Z.b_tuple (de_lc' rfl sc_law.nd (di_range1 Z.b_range (da_cons (de_cIO c__law_take (L2N.takes_of rfl rfl rfl rfl) hr (da_cons (de_v 1) (da_cons de_int da_nil))) da_nil)) (blkOk_by (N := N_law) (sc := (defScope s_law)) (own := [("bag", 5)]) (by decide +kernel)) (fun _ _ _ _ _ => (dg_name (i := 5) sc_law.nd rfl (.inl rfl))) (fun _ _ _ _ _ => dts_nil) (fun _ _ _ _ _ => (de_add de_int (de_cIO c__law_take (takesNo rfl) hr (da_cons (de_v 1) (da_cons (de_ix (de_lst (da_cons de_int (da_cons de_int da_nil))) (de_cIO c__law_take (takesNo rfl) hr (da_cons (de_v 1) (da_cons de_int da_nil))) (fun _ _ => rfl)) da_nil))))) (by decide))))
    (dss_cons (ds_set (i := 7) sc_law.nd rfl (.inl rfl) (de_tup (da_cons (de_v 2) (da_cons (de_v 3) (da_cons (de_v 4) (da_cons (de_v 6) da_nil))))))
    (dss_cons (ds_set (i := 8) sc_law.nd rfl (.inr rfl) (de_c c__law_gas (L2N.takes_of rfl rfl rfl rfl) hr (da_cons (de_v 7) da_nil)))
    (dss_cons (ds_asg (de_c c__law_fly (L2N.takes_of rfl rfl rfl rfl) hr (da_cons (de_v 7) da_nil)) (dg_tup rfl (dgs_cons (dg_name (i := 9) sc_law.nd rfl (.inl rfl)) (dgs_cons (dg_name (i := 10) sc_law.nd rfl (.inr rfl)) dgs_nil))))
    (dss_cons (ds_setLc' (i := 12) rfl sc_law.nd rfl rfl (sw_true rfl rfl rfl (by decide +kernel)) (di_range1 Z.b_range (da_cons (de_len Z.b_len (de_v 8)) da_nil)) (blkOk_by (N := N_law) (sc := (defScope s_law)) (own := [("hour", 11)]) (by decide +kernel)) (fun _ _ _ _ _ => (dg_name (i := 11) sc_law.nd rfl (.inl rfl))) (fun _ _ _ _ _ => (dts_one (db_lt (de_ix (de_v 8) (de_v 11) (fun _ _ => rfl)) (de_v 4)))) (fun _ _ _ _ _ => (de_v 11)) (by decide))
    (dss_cons (ds_set (i := 13) sc_law.nd rfl (.inr rfl) (de_if (db_ne hr (de_v 12) (de_lst da_nil)) (de_ix (de_v 12) de_int (fun _ _ => rfl)) de_non))
    (dss_cons (ds_if (dw_or (db_not (db_tru (de_c c__law_says (L2N.takes_of rfl rfl rfl rfl) hr (da_cons (de_c c_is_balloon (L2N.takes_of rfl rfl rfl rfl) hr (da_cons (de_v 7) da_nil)) (da_cons de_bl da_nil))))) (dw_or (db_not (db_tru (de_c c__law_alike (L2N.takes_of rfl rfl rfl rfl) hr (da_cons (de_lst (da_cons (de_c c_hours_of (L2N.takes_of rfl rfl rfl rfl) hr (da_cons (de_v 7) da_nil)) (da_cons (de_c c_thrown_by (L2N.takes_of rfl rfl rfl rfl) hr (da_cons (de_v 7) da_nil)) da_nil))) (da_cons (de_lst (da_cons (de_v 13) (da_cons (de_tuple Z.b_tuple (de_v 9)) da_nil))) da_nil))))) (dw_or1 (db_ne hr (de_is (de_v 13) de_non) (de_eq hr (de_v 4) de_int))))).toB (dss_one (ds_ret de_bl)) dss_nil)
    (dss_cons (ds_for (L2.passes_of rfl) rfl (di_seq (de_add (de_lrg3 rfl Z.b_list Z.b_range (da_cons de_int (da_cons (de_len Z.b_len (de_v 8)) (da_cons de_int da_nil)))) (de_lst (da_cons (de_len Z.b_len (de_v 8)) (da_cons (de_pow de_int de_int) da_nil))))) (dg_name (i := 11) sc_law.nd rfl (.inl rfl)) (dss_one (ds_if (db_not (db_tru (de_c c__law_alike (L2N.takes_of rfl rfl rfl rfl) hr (da_cons (de_lst (da_cons (de_c c_gas_at (L2N.takes_of rfl rfl rfl rfl) hr (da_cons (de_v 7) (da_cons (de_v 11) da_nil))) (da_cons (de_c c_bags_at (L2N.takes_of rfl rfl rfl rfl) hr (da_cons (de_v 7) (da_cons (de_v 11) da_nil))) da_nil))) (da_cons (de_lst (da_cons (de_ix (de_v 8) (de_min2 Z.b_min rfl (de_v 11) (de_sub (de_len Z.b_len (de_v 8)) de_int)) (fun _ _ => rfl)) (da_cons (de_ix (de_v 10) (de_min2 Z.b_min rfl (de_v 11) (de_sub (de_len Z.b_len (de_v 8)) de_int)) (fun _ _ => rfl)) da_nil))) da_nil))))) (dss_one (ds_ret de_bl)) dss_nil)))
    (dss_cons (ds_if (dw_or (db_ne hr (de_lc' rfl sc_law.nd (di_range2 Z.b_range (da_cons de_int (da_cons (de_len Z.b_len (de_v 8)) da_nil))) (blkOk_by (N := N_law) (sc := (defScope s_law)) (own := [("k", 20)]) (by decide +kernel)) (fun _ _ _ _ _ => (dg_name (i := 20) sc_law.nd rfl (.inl rfl))) (fun _ _ _ _ _ => (dts_one (db_ge (de_ix (de_v 8) (de_v 20) (fun _ _ => rfl)) (de_ix (de_v 8) (de_sub (de_v 20) de_int) (fun _ _ => rfl))))) (fun _ _ _ _ _ => (de_v 20)) (by decide)) (de_lst da_nil)) (dw_or (db_ne hr (de_c c_hours_of (L2N.takes_of rfl rfl rfl rfl) hr (da_cons (de_tup (da_cons (de_v 2) (da_cons (de_v 3) (da_cons (de_v 4) (da_cons (de_slice (de_v 6) (do_some de_int) do_none) da_nil))))) da_nil)) (de_v 13)) (dw_or1 (db_ne hr (de_c c_hours_of (L2N.takes_of rfl rfl rfl rfl) hr (da_cons (de_tup (da_cons (de_v 2) (da_cons (de_v 3) (da_cons (de_v 4) (da_cons (de_add (de_v 6) (de_tup (da_cons de_int da_nil))) da_nil))))) da_nil)) (de_v 13))))).toB (dss_one (ds_ret de_bl)) dss_nil)
    (dss_cons (ds_if (db_ne hr (de_lc' rfl sc_law.nd (di_range1 Z.b_range (da_cons (de_len Z.b_len (de_v 8)) da_nil)) (blkOk_by (N := N_law) (sc := (defScope s_law)) (own := [("hour", 11)]) (by decide +kernel)) (fun _ _ _ _ _ => (dg_name (i := 11) sc_law.nd rfl (.inl rfl))) (fun _ _ _ _ _ => (dts_one (dw_and (dw_or (db_is (de_v 13) de_non) (dw_or1 (db_lt (de_v 11) (de_v 13)))).toB (dw_and1 (db_lt (de_ix (de_v 8) (de_v 11) (fun _ _ => rfl)) (de_add (de_v 4) (de_sumA rfl Z.b_sum (de_ix (de_v 10) (de_v 11) (fun _ _ => rfl))))))).toB)) (fun _ _ _ _ _ => (de_v 11)) (by decide)) (de_lst da_nil)) (dss_one (ds_ret de_bl)) dss_nil)
    (dss_cons (ds_for (L2.passes_of rfl) rfl (di_seq (de_lst (da_cons (de_tup (da_cons (de_min2 Z.b_min rfl de_int (de_add (de_v 2) de_int)) (da_cons (de_v 3) (da_cons (de_v 4) (da_cons (de_v 6) da_nil))))) (da_cons (de_tup (da_cons (de_v 2) (da_cons (de_min2 Z.b_min rfl de_int (de_add (de_v 3) de_int)) (da_cons (de_v 4) (da_cons (de_v 6) da_nil))))) (da_cons (de_tup (da_cons (de_v 2) (da_cons (de_v 3) (da_cons (de_max2 Z.b_max rfl de_int (de_sub (de_v 4) de_int)) (da_cons (de_v 6) da_nil))))) da_nil))))) (dg_name (i := 14) sc_law.nd rfl (.inl rfl)) (dss_cons (ds_set (i := 15) sc_law.nd rfl (.inl rfl) (de_c c_hours_of (L2N.takes_of rfl rfl rfl rfl) hr (da_cons (de_v 14) da_nil)))
    (dss_one (ds_if (dw_and (db_isnot (de_v 13) de_non) (dw_and (db_isnot (de_v 15) de_non) (dw_and1 (db_lt (de_v 15) (de_v 13))))).toB (dss_one (ds_ret de_bl)) dss_nil))))
    (dss_cons (ds_set (i := 16) sc_law.nd rfl (.inl rfl) (de_lst (da_cons (de_tup da_nil) da_nil)))
    (dss_cons (ds_for (L2.passes_of rfl) rfl (di_seq (de_v 6)) (dg_name (i := 5) sc_law.nd rfl (.inr rfl)) (dss_one (ds_set (i := 16) sc_law.nd rfl (.inl rfl) (de_add (de_v 16) (de_lc' rfl sc_law.nd (di_seq (de_v 16)) (blkOk_by (N := N_law) (sc := (defScope s_law)) (own := [("some", 21)]) (by decide +kernel)) (fun _ _ _ _ _ => (dg_name (i := 21) sc_law.nd rfl (.inl rfl))) (fun _ _ _ _ _ => dts_nil) (fun _ _ _ _ _ => (de_add (de_v 21) (de_tup (da_cons (de_v 5) da_nil)))) (by decide))))))
    (dss_cons (ds_set (i := 17) sc_law.nd rfl (.inr rfl) (de_if (db_is (de_v 13) de_non) de_int (de_if (db_gt (de_v 13) de_int) (de_sub (de_ix (de_v 8) (de_sub (de_v 13) de_int) (fun _ _ => rfl)) (de_v 4)) de_non)))
    (dss_cons (ds_set (i := 18) sc_law.nd rfl (.inl rfl) (de_if (db_is (de_v 17) de_non) de_int (de_sub (de_len Z.b_len (de_v 6)) (de_maxA rfl Z.b_max (de_lc' rfl sc_law.nd (di_seq (de_v 16)) (blkOk_by (N := N_law) (sc := (defScope s_law)) (own := [("some", 21)]) (by decide +kernel)) (fun _ _ _ _ _ => (dg_name (i := 21) sc_law.nd rfl (.inl rfl))) (fun _ _ _ _ _ => (dts_one (db_le (de_sumA rfl Z.b_sum (de_v 21)) (de_v 17)))) (fun _ _ _ _ _ => (de_len Z.b_len (de_v 21))) (by decide))))))
    (dss_cons (ds_if (dw_or (db_not (db_tru (de_c c__law_alike (L2N.takes_of rfl rfl rfl rfl) hr (da_cons (de_c c_fewest_throws (L2N.takes_of rfl rfl rfl rfl) hr (da_cons (de_v 7) da_nil)) (da_cons (de_v 18) da_nil))))) (dw_or1 (db_gt (de_v 18) (de_len Z.b_len (de_v 6))))).toB (dss_one (ds_ret de_bl)) dss_nil)
    (dss_cons (ds_set (i := 19) sc_law.nd rfl (.inl rfl) (de_lst (da_cons de_non (da_cons (de_list Z.b_list (de_v 7)) (da_cons (de_slice (de_v 7) do_none (do_some de_int)) (da_cons (de_add (de_v 7) (de_tup (da_cons de_int da_nil))) (da_cons (de_tup (da_cons de_int (da_cons (de_v 3) (da_cons (de_v 4) (da_cons (de_v 6) da_nil))))) (da_cons (de_tup (da_cons de_int (da_cons (de_v 3) (da_cons (de_v 4) (da_cons (de_v 6) da_nil))))) (da_cons (de_tup (da_cons (de_v 2) (da_cons de_int (da_cons (de_v 4) (da_cons (de_v 6) da_nil))))) (da_cons (de_tup (da_cons (de_v 2) (da_cons de_int (da_cons (de_v 4) (da_cons (de_v 6) da_nil))))) (da_cons (de_tup (da_cons (de_v 2) (da_cons (de_v 3) (da_cons (de_neg de_int) (da_cons (de_v 6) da_nil))))) (da_cons (de_tup (da_cons (de_v 2) (da_cons (de_v 3) (da_cons de_int (da_cons (de_v 6) da_nil))))) da_nil))))))))))))
    (dss_cons (ds_set (i := 19) sc_law.nd rfl (.inl rfl) (de_add (de_v 19) (de_lst (da_cons (de_tup (da_cons (de_v 2) (da_cons (de_v 3) (da_cons (de_v 4) (da_cons de_non da_nil))))) (da_cons (de_tup (da_cons (de_v 2) (da_cons (de_v 3) (da_cons (de_v 4) (da_cons (de_lst (da_cons de_int da_nil)) da_nil))))) (da_cons (de_tup (da_cons (de_v 2) (da_cons (de_v 3) (da_cons (de_v 4) (da_cons (de_tup (da_cons de_int da_nil)) da_nil))))) (da_cons (de_tup (da_cons (de_v 2) (da_cons (de_v 3) (da_cons (de_v 4) (da_cons (de_tup (da_cons de_int da_nil)) da_nil))))) (da_cons (de_tup (da_cons (de_v 2) (da_cons (de_v 3) (da_cons (de_v 4) (da_cons (de_mul (de_tup (da_cons de_int da_nil)) de_int) da_nil))))) (da_cons (de_tup (da_cons de_bl (da_cons (de_v 3) (da_cons (de_v 4) (da_cons (de_v 6) da_nil))))) (da_cons (de_tup (da_cons (de_v 2) (da_cons de_non (da_cons (de_v 4) (da_cons (de_v 6) da_nil))))) (da_cons (de_tup (da_cons (de_v 2) (da_cons (de_v 3) (da_cons (de_v 4) (da_cons (de_tup (da_cons de_non da_nil)) da_nil))))) da_nil)))))))))))
    (dss_one (ds_ret (de_eq hr (de_lc' rfl sc_law.nd (di_seq (de_v 19)) (blkOk_by (N := N_law) (sc := (defScope s_law)) (own := [("value", 22)]) (by decide +kernel)) (fun _ _ _ _ _ => (dg_name (i := 22) sc_law.nd rfl (.inl rfl))) (fun _ _ _ _ _ => (dts_one (db_isnot (de_c c_is_balloon (takesNo rfl) hr (da_cons (de_v 22) da_nil)) de_bl))) (fun _ _ _ _ _ => (de_v 22)) (by decide)) (de_lst da_nil)))))))))))))))))))))))))
theorem ok_law {P : Program} {w : World} {K : PySem.W.Frag} {mg : Str → Option Value} {base : Heap} {T : Addr → Prop} {k : Nat} {sp__law_draws : PSp} {sp__law_take : PSpIO} {sp__law_gas : PSp} {sp__law_fly : PSp} {sp__law_says : PSp} {sp_is_balloon : PSp} {sp__law_alike : PSp} {sp_hours_of : PSp} {sp_thrown_by : PSp} {sp_gas_at : PSp} {sp_bags_at : PSp} {sp_fewest_throws : PSp} (Z : Top K mg) (c__law_draws : CallD P w K mg base T k "_law_draws" p__law_draws sp__law_draws) (c__law_take : CallIO P w K mg base T k "_law_take" p__law_take sp__law_take) (c__law_gas : CallD P w K mg base T k "_law_gas" p__law_gas sp__law_gas) (c__law_fly : CallD P w K mg base T k "_law_fly" p__law_fly sp__law_fly) (c__law_says : CallD P w K mg base T k "_law_says" p__law_says sp__law_says) (c_is_balloon : CallD P w K mg base T k "is_balloon" p_is_balloon sp_is_balloon) (c__law_alike : CallD P w K mg base T k "_law_alike" p__law_alike sp__law_alike) (c_hours_of : CallD P w K mg base T k "hours_of" p_hours_of sp_hours_of) (c_thrown_by : CallD P w K mg base T k "thrown_by" p_thrown_by sp_thrown_by) (c_gas_at : CallD P w K mg base T k "gas_at" p_gas_at sp_gas_at) (c_bags_at : CallD P w K mg base T k "bags_at" p_bags_at sp_bags_at) (c_fewest_throws : CallD P w K mg base T k "fewest_throws" p_fewest_throws sp_fewest_throws) {fa : Addr} {fd : FuncData} (F : Fun K "law" "law" s_law fa fd) (hm : mg "law" = some (.ref fa)) (hb : Binds K fd p_law []) {sp : PSp} (len : ∀ ds q x, sp ds q x → ds.length = 1)
    (hsp : ∀ ds q x, sp ds q x → T_law sp__law_draws sp__law_take sp__law_gas sp__law_fly sp__law_says sp_is_balloon sp__law_alike sp_hours_of sp_thrown_by sp_gas_at sp_bags_at sp_fewest_throws ⟨fun _ => q (.d .non), fun r _ => q r, fun _ => False, fun _ => False, fun c _ => x c⟩ (startE N_law ds)) : CallD P w K mg base T (k + 1) "law" p_law sp :=
  ⟨fa, fd, fn_ok F sc_law len (fun cdv A outer s H E hr => d_law Z c__law_draws c__law_take c__law_gas c__law_fly c__law_says c_is_balloon c__law_alike c_hours_of c_thrown_by c_gas_at c_bags_at c_fewest_throws cdv A outer s H E hr) hsp, hm, F.kp, hb⟩
end K88

set_option Elab.async false
set_option linter.all false
set_option maxRecDepth 100000
set_option maxHeartbeats 4000000
namespace K88
open PySem PySem.Spec PyProof.Rows L2 DL LW
abbrev nD (l : List Nat) : List D := l.map fun n => D.int (n : Nat)
abbrev BL (g p w : Nat) (bs : List Nat) : D := .tup [.int g, .int p, .int w, .tup (nD bs)]
theorem nD_ints (l : List Nat) : nD l = (l.map fun n : Nat => (n : Int)).map D.int := by
  rw [List.map_map]
  rfl
theorem nD_len (l : List Nat) : (nD l).length = l.length := List.length_map ..
theorem nD_get {l : List Nat} {i v : Nat} (h : l[i]? = some v) : (nD l)[i]? = some (.int (v : Nat)) := by
  rw [List.getElem?_map, h]
  rfl
theorem nD_get' {l : List Nat} {i : Nat} {d : D} (h : (nD l)[i]? = some d) : ∃ v, l[i]? = some v ∧ d = .int (v : Nat) := by
  rw [List.getElem?_map] at h
  obtain ⟨v, e, rfl⟩ := Option.map_eq_some_iff.mp h
  exact ⟨v, e, rfl⟩
theorem nD_last (l : List Nat) (y : Nat) : atI (nD (l ++ [y])) (-1) = some (.int (y : Nat)) :=
  atI_neg1 (n := l.length) (by rw [nD_len, List.length_append]; rfl) (nD_get (by simp))
theorem ceil_int {y p : Nat} (hp : 1 ≤ p) : -(-(y : Int) / (p : Int)) = (((y + p - 1) / p : Nat) : Int) := by
  generalize hq : (y + p - 1) / p = q
  have h1 := Nat.div_add_mod (y + p - 1) p
  have h2 := Nat.mod_lt (y + p - 1) (show 0 < p by omega)
  rw [hq] at h1
  have e : ((p * q : Nat) : Int) = (p : Int) * (q : Int) := Int.natCast_mul p q
  have := (Int.ediv_emod_unique (a := -(y : Int)) (b := (p : Int)) (q := -(q : Int)) (r := (p : Int) * q - y) (by omega)).mpr ⟨by rw [Int.mul_neg]; omega, by omega, by omega⟩
  rw [this.1]
  omega
theorem ceil_int2 {y p : Nat} (hp : 1 ≤ p) : ((y : Int) + (p : Int) - 1) / (p : Int) = (((y + p - 1) / p : Nat) : Int) := by
  rw [Int.natCast_ediv]
  congr 1
  omega
theorem stp_int {y p : Nat} (hp : 1 ≤ p) : (y : Int) - (((y + p - 1) / p : Nat) : Int) = ((stp p y : Nat) : Int) := by
  have := ceil_le (p := p) (x := y) hp
  unfold stp
  omega
structure Bl (g p w : Nat) (bs : List Nat) : Prop where
  g0 : g ≤ 1000
  p0 : 1 ≤ p
  p1 : p ≤ 20
  w0 : w ≤ 500
  bl : bs.length ≤ 8
  b0 : ∀ b ∈ bs, b ≤ 100
def sp_row : PSp := fun ds q _ => ∃ g p w bs, ds = [BL g p w bs] ∧ Bl g p w bs ∧ q (.n (.lst (nD (row p g))))
section
variable {q : RV → Prop}
theorem row_cut {p g y : Nat} {pre : List Nat} (hp : 1 ≤ p) (h : row p g = pre ++ row p y) (hy : 0 < y) : row p g = (pre ++ [y]) ++ row p (stp p y) := by
  rw [h, row_pos hp hy, List.append_assoc]
  rfl
theorem row_pre {p g y : Nat} {pre : List Nat} (hp : 1 ≤ p) (h : row p g = pre ++ row p y) : pre.length ≤ g := by
  have h1 := congrArg List.length h
  rw [List.length_append] at h1
  have h2 := row_len hp g g (Nat.le_refl g)
  have h3 := row_len hp y y (Nat.le_refl y)
  omega
theorem gas_row_ok (ds q x) (h : sp_row ds q x) : T_gas_row (SEr q x) (startE N_gas_row ds) := by
  obtain ⟨g, p, w, bs, rfl, B, h⟩ := h
  have hp := B.p0; have hp1 := B.p1; have hg := B.g0
  have bp : Bt 64 (p : Int) := by unfold Bt; omega
  unfold T_gas_row
  walk_at "dl"
  refine ⟨fun m ρ => ∃ (pre : List Nat) (y : Nat), ρ = [.va (BL g p w bs), .ow (.lst (nD (pre ++ [y])))] ∧ row p g = pre ++ row p y ∧ m = y, ⟨g, [], g, rfl, rfl, rfl⟩, fun m ρ hP => ?_⟩
  obtain ⟨pre, y, rfl, hr, rfl⟩ := hP
  have hl := row_pre hp hr
  have last := nD_last pre m
  have glen : (nD (pre ++ [m])).length < sizeLine := by
    rw [nD_len, List.length_append, sizeLine_eq]
    show pre.length + 1 < _
    omega
  (walk_at "dl"; repeat (simp only [last]; walk_at "dl"))
  split
  · rename_i hm
    have hm : 0 < m := by omega
    (walk_at "dl"; repeat (simp only [last]; walk_at "dl"))
    refine ⟨cdivw (by omega) bp (by decide), ?_⟩
    rw [ceil_int hp, stp_int hp]
    refine ⟨glen, stp p m, stp_lt hp hm, pre ++ [m], stp p m, ?_, row_cut hp hr hm, rfl⟩
    unfold nD
    rw [List.map_append (l₂ := [stp p m])]
    rfl
  · rename_i hm
    have : m = 0 := by omega
    subst this
    rw [row_0] at hr
    rw [hr] at h
    walk_at "dl"
    exact h
theorem lgas_ok (ds q x) (h : sp_row ds q x) : T__law_gas (SEr q x) (startE N__law_gas ds) := by
  obtain ⟨g, p, w, bs, rfl, B, h⟩ := h
  have hp := B.p0; have hp1 := B.p1; have hg := B.g0
  have bp : Bt 64 (p : Int) := by unfold Bt; omega
  unfold T__law_gas
  walk_at "dl"
  refine ⟨fun m ρ => ∃ (pre : List Nat) (y : Nat), ρ = [.va (BL g p w bs), .ow (.lst (nD (pre ++ [y])))] ∧ row p g = pre ++ row p y ∧ m = y, ⟨g, [], g, rfl, rfl, rfl⟩, fun m ρ hP => ?_⟩
  obtain ⟨pre, y, rfl, hr, rfl⟩ := hP
  have hl := row_pre hp hr
  have last := nD_last pre m
  have glen : (nD (pre ++ [m])).length < sizeLine := by
    rw [nD_len, List.length_append, sizeLine_eq]
    show pre.length + 1 < _
    omega
  (walk_at "dl"; repeat (simp only [last]; walk_at "dl"))
  split
  · rename_i hm
    have hm : 0 < m := by omega
    (walk_at "dl"; repeat (simp only [last]; walk_at "dl"))
    refine ⟨cdivw (by omega) bp (by decide), ?_⟩
    rw [ceil_int2 hp, stp_int hp]
    refine ⟨glen, stp p m, stp_lt hp hm, pre ++ [m], stp p m, ?_, row_cut hp hr hm, rfl⟩
    unfold nD
    rw [List.map_append (l₂ := [stp p m])]
    rfl
  · rename_i hm
    have : m = 0 := by omega
    subst this
    rw [row_0] at hr
    rw [hr] at h
    walk_at "dl"
    exact h
theorem low_sm {p g : Nat} (hp : 1 ≤ p) {i v : Nat} (h : (row p g)[i]? = some v) : v = ga p g i := (row_get hp g g (Nat.le_refl g) i v h).1
theorem row_at {p g i : Nat} (hp : 1 ≤ p) (h : i < (row p g).length) : (row p g)[i]? = some (ga p g i) := by
  rw [List.getElem?_eq_getElem h]
  congr 1
  exact low_sm hp (List.getElem?_eq_getElem h)
def optN : Option Nat → D
  | none => .non
  | some n => .int (n : Nat)
def sp_at : PSp := fun ds q _ => ∃ g p w bs, ∃ h : Int, ds = [BL g p w bs, .int h] ∧ Bl g p w bs ∧ 0 ≤ h ∧ q (.d (.int (ga p g (min h.toNat ((row p g).length - 1)) : Nat)))
theorem gas_at_ok (ds q x) (h : sp_at ds q x) : T_gas_at sp_row (SEr q x) (startE N_gas_at ds) := by
  obtain ⟨g, p, w, bs, hr, rfl, B, h0, h⟩ := h
  obtain ⟨a, b, _⟩ := row_len B.p0 g g (Nat.le_refl g)
  have hg := B.g0
  unfold T_gas_at
  walk_at "dl"
  refine ⟨g, p, w, bs, rfl, B, ?_⟩
  have e : (if hr > ((row p g).length : Int) - 1 then ((row p g).length : Int) - 1 else hr) = ((min hr.toNat ((row p g).length - 1) : Nat) : Int) := by split <;> omega
  have e2 : (if ((row p g).length : Int) - 1 < hr then ((row p g).length : Int) - 1 else hr) = ((min hr.toNat ((row p g).length - 1) : Nat) : Int) := by split <;> omega
  have ix : atI (nD (row p g)) ((min hr.toNat ((row p g).length - 1) : Nat) : Int) = some (.int (ga p g (min hr.toNat ((row p g).length - 1)) : Nat)) := atI_at rfl (nD_get (row_at B.p0 (by omega)))
  (walk_at "dl"; repeat (simp only [nD_len, e, e2, ix]; walk_at "dl"))
  exact h
def sp_hours : PSp := fun ds q _ => ∃ g p w bs, ds = [BL g p w bs] ∧ Bl g p w bs ∧ q (.d (optN (low p g w).head?))
/-- the list so far -/
theorem low_step {p g w i : Nat} : ((List.range (i + 1)).filter fun h => decide (ga p g h < w)) = if ga p g i < w then ((List.range i).filter fun h => decide (ga p g h < w)) ++ [i] else (List.range i).filter fun h => decide (ga p g h < w) := by
  rw [List.range_succ, List.filter_append]
  split
  · rename_i z
    simp [z]
  · rename_i z
    simp [z]
theorem hours_ok (ds q x) (h : sp_hours ds q x) : T_hours_of sp_row (SEr q x) (startE N_hours_of ds) := by
  obtain ⟨g, p, w, bs, rfl, B, h⟩ := h
  obtain ⟨a, b, _⟩ := row_len B.p0 g g (Nat.le_refl g)
  have hg := B.g0
  unfold T_hours_of
  walk_at "dl"
  refine ⟨g, p, w, bs, rfl, B, ?_⟩
  walk_at "dl"
  refine ⟨rfl, fun i acc ρ => acc = nD ((List.range i).filter fun h => decide (ga p g h < w)) ∧ ρ = [.va (BL g p w bs), .no, .no, .no], ⟨rfl, rfl⟩, fun i d acc ρ hd hP => ?_, fun acc ρ hP => ?_⟩
  · obtain ⟨rfl, rfl⟩ := hP
    obtain ⟨y, hy, rfl⟩ := enumD_get hd
    obtain ⟨v, hv, rfl⟩ := nD_get' hy
    have hi := (List.getElem?_eq_some_iff.mp hv).1
    obtain rfl := low_sm B.p0 hv
    have hl : ((List.range i).filter fun h => decide (ga p g h < w)).length ≤ i := Nat.le_trans (List.length_filter_le _ _) (by rw [List.length_range]; exact Nat.le_refl i)
    have ls := low_step (p := p) (g := g) (w := w) (i := i)
    walk_at "dl"
    split
    · rename_i z
      have z : ga p g i < w := by omega
      rw [if_pos z] at ls
      walk_at "dl"
      refine ⟨by rw [nD_len, sizeLine_eq]; omega, ?_, rfl⟩
      rw [ls]
      unfold nD
      rw [List.map_append]
      rfl
    · rename_i z
      have z : ¬ ga p g i < w := by omega
      rw [if_neg z] at ls
      walk_at "dl"
      exact ⟨by rw [ls], rfl⟩
  · obtain ⟨rfl, rfl⟩ := hP
    rw [enumD_len, nD_len]
    (walk_at "dl"; repeat (simp only [unwipe, Option.getD_some, nD_len]; walk_at "dl"))
    unfold low at h
    cases e : (List.range (row p g).length).filter fun h => decide (ga p g h < w) with
    | nil =>
      rw [e] at h
      walk_at "dl"
      exact h
    | cons k r =>
      rw [e] at h
      (walk_at "dl"; repeat (simp only [nD_len]; walk_at "dl"))
      rw [if_pos (by omega)]
      exact h
end
end K88

set_option Elab.async false
set_option linter.all false
set_option maxRecDepth 100000
set_option maxHeartbeats 4000000
namespace K88
open PySem PySem.Spec PyProof.Rows L2 DL LW
theorem sum_cast : ∀ l : List Nat, (l.map fun n : Nat => (n : Int)).sum = ((l.sum : Nat) : Int)
  | [] => rfl
  | a :: l => by
    rw [List.map_cons, List.sum_cons, List.sum_cons, sum_cast l, Int.natCast_add]
theorem nats_of {bs : List Nat} {ns : List Int} (h : ns.Perm (bs.map fun n : Nat => (n : Int))) (hs : ns.Pairwise (· ≤ ·)) : ∃ sb : List Nat, ns.map D.int = nD sb ∧ sb.Perm bs ∧ sb.Pairwise (· ≤ ·) := by
  refine ⟨ns.map Int.toNat, ?_, ?_, ?_⟩
  · have e : ns = (ns.map Int.toNat).map fun n : Nat => (n : Int) := by
      rw [List.map_map]
      refine (List.map_id ns).symm.trans (List.map_congr_left fun z hz => ?_)
      obtain ⟨n, _, rfl⟩ := List.mem_map.mp (h.mem_iff.mp hz)
      rfl
    rw [nD_ints, ← e]
  · have := h.map Int.toNat
    rw [List.map_map] at this
    rw [show (Int.toNat ∘ fun n : Nat => (n : Int)) = id from rfl, List.map_id] at this
    exact this
  · rw [List.pairwise_map]
    exact hs.imp fun h => by omega
theorem sorted_uniq {a b : List Nat} (h : a.Perm b) (ha : a.Pairwise (· ≤ ·)) (hb : b.Pairwise (· ≤ ·)) : a = b := h.eq_of_pairwise (fun x y _ _ h1 h2 => Nat.le_antisymm h1 h2) ha hb
/-- what is thrown: the first index of its value -/
theorem first_ix {b : List Nat} {k v : Nat} (h : b[k]? = some v) : ∃ j, j ≤ k ∧ b[j]? = some v ∧ ∀ m, m < j → b[m]? ≠ some v := by
  induction k using Nat.strongRecOn with
  | _ k ih =>
    by_cases hx : ∃ m, m < k ∧ b[m]? = some v
    · obtain ⟨m, hm, e⟩ := hx
      obtain ⟨j, h1, h2, h3⟩ := ih m hm e
      exact ⟨j, by omega, h2, h3⟩
    · exact ⟨k, Nat.le_refl k, h, fun m hm e => hx ⟨m, hm, e⟩⟩
theorem ks_some {g w f : Nat} {b r : List Nat} (h : (b.filter fun x => decide (w + b.sum ≤ g + x)) = f :: r) : b[ks g w b]? = some f := by
  unfold ks
  have key : ∀ (c : List Nat) (s n : Nat), (c.filter fun x => decide (s ≤ g + x)) = f :: r → ∃ k, (List.range c.length).find? (fun k => decide (s ≤ g + c.getD k 0)) = some k ∧ c[k]? = some f := by
    intro c s n
    induction c with
    | nil => intro h; simp at h
    | cons x c ih =>
      intro h
      rw [List.length_cons, List.range_succ_eq_map, List.find?_cons]
      by_cases hx : s ≤ g + x
      · rw [List.filter_cons_of_pos (by simpa using hx)] at h
        refine ⟨0, ?_, ?_⟩
        · simp [hx]
        · simpa using (List.cons.inj h).1
      · rw [List.filter_cons_of_neg (by simpa using hx)] at h
        obtain ⟨k, e1, e2⟩ := ih h
        refine ⟨k + 1, ?_, by simpa using e2⟩
        have : decide (s ≤ g + (x :: c).getD 0 0) = false := by simpa using hx
        rw [this, List.find?_map]
        have e3 : ((fun k => decide (s ≤ g + (x :: c).getD k 0)) ∘ Nat.succ) = fun k => decide (s ≤ g + c.getD k 0) := by
          funext k
          simp
        rw [e3, e1]
        rfl
  obtain ⟨k, e1, e2⟩ := key b (w + b.sum) 0 h
  rw [e1]
  exact e2
theorem ks_none {g w : Nat} {b : List Nat} (h : (b.filter fun x => decide (w + b.sum ≤ g + x)) = []) : ks g w b = b.length - 1 := by
  unfold ks
  have : (List.range b.length).find? (fun k => decide (w + b.sum ≤ g + b.getD k 0)) = none := by
    rw [List.find?_eq_none]
    intro k hk
    have hk := List.mem_range.mp hk
    rw [List.filter_eq_nil_iff] at h
    have := h (b.getD k 0) (by rw [List.getD_eq_getElem?_getD, List.getElem?_eq_getElem hk]; exact List.getElem_mem hk)
    exact this
  rw [this]
end K88

set_option Elab.async false
set_option linter.all false
set_option maxRecDepth 100000
set_option maxHeartbeats 4000000
namespace K88
open PySem PySem.Spec PyProof.Rows L2 DL LW
abbrev thD (T : List (Nat × Nat)) : List D := T.map fun z => .tup [.int (z.1 : Nat), .int (z.2 : Nat)]
abbrev rwD (R : List (List Nat)) : List D := R.map fun r => .tup (nD r)
def sp_flight : PSp := fun ds q _ => ∃ g p w bs, ds = [BL g p w bs] ∧ Bl g p w bs ∧ ∀ sb : List Nat, sb.Perm bs → sb.Pairwise (· ≤ ·) → q (.d (.tup [.lst (thD (flS w 0 (row p g) sb).1), .lst (rwD (flS w 0 (row p g) sb).2)]))
theorem fl_eq {w g : Nat} {b : List Nat} (h : 0 < b.length) (hg : g < w + b.sum) : fl w g b.length b = (b.getD (ks g w b) 0 :: (fl w g (b.eraseIdx (ks g w b)).length (b.eraseIdx (ks g w b))).1, (fl w g (b.eraseIdx (ks g w b)).length (b.eraseIdx (ks g w b))).2) := by
  have e : (b.eraseIdx (ks g w b)).length = b.length - 1 := List.length_eraseIdx_of_lt (ks_lt h)
  obtain ⟨n, hn⟩ : ∃ n, b.length = n + 1 := ⟨b.length - 1, by omega⟩
  rw [e, hn, fl, if_pos hg]
  rfl
theorem fl_stop {w g : Nat} {b : List Nat} (h : b.length = 0 ∨ ¬ g < w + b.sum) : fl w g b.length b = ([], b) := by
  cases hn : b.length with
  | zero => rfl
  | succ n =>
    rw [fl, if_neg]
    rcases h with h | h
    · omega
    · exact h
theorem erase_eq {b : List Nat} {j : Nat} : nD (b.take j) ++ nD (b.drop (j + 1)) = nD (b.eraseIdx j) := by
  rw [List.eraseIdx_eq_take_drop_succ]
  unfold nD
  rw [List.map_append]
theorem erase_eq2 {b : List Nat} {j : Nat} : (nD b).take j ++ (nD b).drop (j + 1) = nD (b.eraseIdx j) := by
  rw [← erase_eq]
  unfold nD
  rw [List.map_take, List.map_drop]
theorem filt_step {c : List Nat} {i y s g : Nat} (h : c[i]? = some y) : ((c.take (i + 1)).filter fun x => decide (s ≤ g + x)) = if s ≤ g + y then ((c.take i).filter fun x => decide (s ≤ g + x)) ++ [y] else (c.take i).filter fun x => decide (s ≤ g + x) := by
  rw [List.take_add_one, h, List.filter_append]
  split
  · rename_i z
    simp [z]
  · rename_i z
    simp [z]
theorem getD_of {b : List Nat} {k v : Nat} (h : b[k]? = some v) : b.getD k 0 = v := by
  rw [List.getD_eq_getElem?_getD, h]
  rfl
theorem ix_first {b : List Nat} {k v : Nat} (h : b[k]? = some v) {Q : Nat → Prop} (hQ : ∀ j, j ≤ k → b[j]? = some v → Q j) : (nD b).all flatD = true ∧ ∃ (j : Nat) (z : D), (nD b)[j]? = some z ∧ eqF z (.int (v : Nat)) = true ∧ (∀ (m : Nat) (z' : D), m < j → (nD b)[m]? = some z' → eqF z' (.int (v : Nat)) = false) ∧ Q j := by
  obtain ⟨j, hj, e, f⟩ := first_ix h
  refine ⟨by rw [nD_ints]; exact all_ints _, j, .int (v : Nat), nD_get e, by show (_ == _) = true; simp, fun m z' hm hz => ?_, hQ j hj e⟩
  obtain ⟨x, hx, rfl⟩ := nD_get' hz
  have : x ≠ v := fun z => f m hm (z ▸ hx)
  show (((x : Nat) : Int) == ((v : Nat) : Int)) = false
  simp
  omega
theorem flight_ok (ds q x) (h : sp_flight ds q x) : T_flight_of sp_row (SEr q x) (startE N_flight_of ds) := by
  obtain ⟨g, p, w, bs, rfl, B, h⟩ := h
  obtain ⟨a, b, _⟩ := row_len B.p0 g g (Nat.le_refl g)
  have hg := B.g0; have hbl := B.bl
  unfold T_flight_of
  walk_at "dl"
  refine ⟨bs.map fun n : Nat => (n : Int), nD_ints bs, fun ns' hp hs => ?_⟩
  obtain ⟨sb, e, hp, hs⟩ := nats_of hp hs
  rw [e]
  have h := h sb hp hs
  have hsl : sb.length = bs.length := hp.length_eq
  clear e
  walk_at "dl"
  refine ⟨g, p, w, bs, rfl, B, ?_⟩
  walk_at "dl"
  refine ⟨fun i ρ => ∃ (T : List (Nat × Nat)) (R : List (List Nat)) (c : List Nat) (s2 s5 s6 s7 s8 s9 : Sl), ρ = [.va (BL g p w bs), .va (.int w), s2, .ow (.lst (thD T)), .ow (.lst (rwD R)), s5, s6, s7, s8, s9, .no] ∧ (s2 = .va (.lst (nD c)) ∨ s2 = .ow (.lst (nD c))) ∧
    (flS w 0 (row p g) sb).1 = T ++ (flS w i ((row p g).drop i) c).1 ∧ (flS w 0 (row p g) sb).2 = R ++ (flS w i ((row p g).drop i) c).2 ∧ R.length = i ∧ T.length + c.length ≤ sb.length ∧ c.Pairwise (· ≤ ·),
    ⟨[], [], sb, _, _, _, _, _, _, rfl, .inl rfl, rfl, rfl, rfl, by simp, hs⟩, fun i d ρ hd hP => ?_, fun ρ hP => ?_⟩
  rotate_left
  · obtain ⟨T, R, c, s2, s5, s6, s7, s8, s9, rfl, hs2, e1, e2, e3, e4, e5⟩ := hP
    rw [enumD_len, nD_len, List.drop_length] at e1 e2
    have e1 : (flS w 0 (row p g) sb).1 = T := e1.trans (List.append_nil T)
    have e2 : (flS w 0 (row p g) sb).2 = R := e2.trans (List.append_nil R)
    rw [e1, e2] at h
    walk_at "dl"
    exact h
  obtain ⟨T, R, c, s2, s5, s6, s7, s8, s9, rfl, hs2, e1, e2, e3, e4, e5⟩ := hP
  obtain ⟨y, hy, rfl⟩ := enumD_get hd
  obtain ⟨ga, hv, rfl⟩ := nD_get' hy
  have hi := (List.getElem?_eq_some_iff.mp hv).1
  have hdrop : (row p g).drop i = ga :: (row p g).drop (i + 1) := by
    rw [List.drop_eq_getElem_cons hi]
    congr 1
    exact (List.getElem?_eq_some_iff.mp hv).2
  rw [hdrop, flS] at e1 e2
  have glen : (rwD R).length < sizeLine := by
    rw [List.length_map, sizeLine_eq]
    omega
  walk_at "dl"
  refine ⟨fun m ρ => ∃ (T : List (Nat × Nat)) (c' : List Nat) (s2 s7 s8 s9 : Sl), ρ = [.va (BL g p w bs), .va (.int w), s2, .ow (.lst (thD T)), .ow (.lst (rwD R)), .va (.int (i : Nat)), .va (.int (ga : Nat)), s7, s8, s9, .no] ∧ (s2 = .va (.lst (nD c')) ∨ s2 = .ow (.lst (nD c'))) ∧
      (flS w 0 (row p g) sb).1 = T ++ ((fl w ga c'.length c').1.map (fun x => (i, x)) ++ (flS w (i + 1) ((row p g).drop (i + 1)) (fl w ga c.length c).2).1) ∧ (fl w ga c'.length c').2 = (fl w ga c.length c).2 ∧ T.length + c'.length ≤ sb.length ∧ c'.Pairwise (· ≤ ·) ∧ m = c'.length,
      ⟨c.length, T, c, s2, s7, s8, s9, rfl, hs2, e1, rfl, e4, e5, rfl⟩, fun m ρ hP => ?_⟩
  obtain ⟨T1, c', s2, s7, s8, s9, rfl, hs2, f1, f2, f4, f5, rfl⟩ := hP
  have fin : (c'.length = 0 ∨ ¬ ga < w + c'.sum) → ∀ s2'', (s2'' = Sl.va (.lst (nD c')) ∨ s2'' = Sl.ow (.lst (nD c'))) → ∃ (T : List (Nat × Nat)) (R' : List (List Nat)) (c'' : List Nat) (s2 s5 s6 s7' s8' s9' : Sl), [.va (BL g p w bs), .va (.int w), s2'', .ow (.lst (thD T1)), .ow (.lst (rwD R ++ [D.tup (nD c')])), .va (.int (i : Nat)), .va (.int (ga : Nat)), s7, s8, s9, .no] = [Sl.va (BL g p w bs), .va (.int w), s2, .ow (.lst (thD T)), .ow (.lst (rwD R')), s5, s6, s7', s8', s9', .no] ∧ (s2 = .va (.lst (nD c'')) ∨ s2 = .ow (.lst (nD c''))) ∧
        (flS w 0 (row p g) sb).1 = T ++ (flS w (i + 1) ((row p g).drop (i + 1)) c'').1 ∧ (flS w 0 (row p g) sb).2 = R' ++ (flS w (i + 1) ((row p g).drop (i + 1)) c'').2 ∧ R'.length = i + 1 ∧ T.length + c''.length ≤ sb.length ∧ c''.Pairwise (· ≤ ·) := fun hst s2'' hh => by
    rw [fl_stop hst] at f1 f2
    have f2 : c' = (fl w ga c.length c).2 := f2
    rw [← f2] at f1 e2
    exact ⟨T1, R ++ [c'], c', s2'', _, _, _, _, _, by unfold rwD; rw [List.map_append]; rfl, hh, f1, by rw [e2, List.append_assoc]; rfl, by rw [List.length_append, e3]; rfl, f4, f5⟩
  have hsum := sum_cast c'
  by_cases h0 : c'.length = 0
  · have fin := fin (.inl h0)
    rcases hs2 with rfl | rfl
    all_goals
      (walk_at "dl"; repeat (simp only [nD_len]; walk_at "dl"))
      rw [if_neg (by omega)]
      walk_at "dl"
    · exact ⟨glen, fin _ (.inl rfl)⟩
    · exact ⟨glen, fin _ (.inr rfl)⟩
  by_cases hg1 : ga < w + c'.sum
  rotate_left
  · have fin := fin (.inr hg1)
    rcases hs2 with rfl | rfl
    all_goals
      (walk_at "dl"; repeat (simp only [nD_len]; walk_at "dl"))
      rw [if_pos (by omega)]
      walk_at "dl"
      refine ⟨_, nD_ints c', ?_⟩
      rw [hsum]
      walk_at "dl"
      rw [if_neg (by omega)]
      walk_at "dl"
    · exact ⟨glen, fin _ (.inl rfl)⟩
    · exact ⟨glen, fin _ (.inr rfl)⟩
  clear fin
  rcases hs2 with rfl | rfl
  all_goals
    (walk_at "dl"; repeat (simp only [nD_len]; walk_at "dl"))
    rw [if_pos (by omega)]
    walk_at "dl"
    refine ⟨_, nD_ints c', ?_⟩
    rw [hsum]
    walk_at "dl"
    rw [if_pos (by omega)]
    walk_at "dl"
    refine ⟨rfl, fun k acc ρ => acc = nD ((c'.take k).filter fun x => decide (w + c'.sum ≤ ga + x)) ∧ ρ = [.va (BL g p w bs), .va (.int w), .va (.lst (nD c')), .ow (.lst (thD T1)), .ow (.lst (rwD R)), .va (.int (i : Nat)), .va (.int (ga : Nat)), s7, s8, s9, .no], ⟨rfl, rfl⟩, fun k d acc ρ hd hP => ?_, fun acc ρ hP => ?_⟩
    · obtain ⟨rfl, rfl⟩ := hP
      obtain ⟨y, hy, rfl⟩ := nD_get' hd
      have hk := (List.getElem?_eq_some_iff.mp hy).1
      have hfl : ((c'.take k).filter fun x => decide (w + c'.sum ≤ ga + x)).length ≤ k := Nat.le_trans (List.length_filter_le _ _) (List.length_take_le _ _)
      have fs := filt_step (s := w + c'.sum) (g := ga) hy
      walk_at "dl"
      refine ⟨_, nD_ints c', ?_⟩
      rw [hsum]
      walk_at "dl"
      split
      · rename_i z
        rw [if_pos (by omega)] at fs
        walk_at "dl"
        refine ⟨by rw [nD_len, sizeLine_eq]; omega, ?_, rfl⟩
        rw [fs]
        unfold nD
        rw [List.map_append]
        rfl
      · rename_i z
        rw [if_neg (by omega)] at fs
        walk_at "dl"
        exact ⟨by rw [fs], rfl⟩
    · obtain ⟨rfl, rfl⟩ := hP
      rw [nD_len, List.take_length]
      have hks := ks_lt (g := ga) (w := w) (b := c') (by omega)
      have fe := fl_eq (w := w) (g := ga) (b := c') (by omega) hg1
      have tail : ∀ (v : Nat) (s7' : Sl), c'[ks ga w c']? = some v → ∀ j, j ≤ ks ga w c' → c'[j]? = some v → (thD T1).length < sizeLine ∧ ∃ n, n < c'.length ∧ ∃ (T : List (Nat × Nat)) (c'' : List Nat) (s2 s7 s8 s9 : Sl), [.va (BL g p w bs), .va (.int w), .ow (.lst (nD (c'.eraseIdx j))), .ow (.lst (thD T1 ++ [D.tup [.int (i : Nat), .int (v : Nat)]])), .ow (.lst (rwD R)), .va (.int (i : Nat)), .va (.int (ga : Nat)), s7', .va (.int (v : Nat)), .va (.int (j : Nat)), .no] = [Sl.va (BL g p w bs), .va (.int w), s2, .ow (.lst (thD T)), .ow (.lst (rwD R)), .va (.int (i : Nat)), .va (.int (ga : Nat)), s7, s8, s9, .no] ∧ (s2 = .va (.lst (nD c'')) ∨ s2 = .ow (.lst (nD c''))) ∧
          (flS w 0 (row p g) sb).1 = T ++ ((fl w ga c''.length c'').1.map (fun x => (i, x)) ++ (flS w (i + 1) ((row p g).drop (i + 1)) (fl w ga c.length c).2).1) ∧ (fl w ga c''.length c'').2 = (fl w ga c.length c).2 ∧ T.length + c''.length ≤ sb.length ∧ c''.Pairwise (· ≤ ·) ∧ n = c''.length := fun v s7' hv j hj hjv => by
        have ee := sorted_erase f5 hj hjv hv
        have el : (c'.eraseIdx j).length = c'.length - 1 := List.length_eraseIdx_of_lt (by omega)
        rw [← ee, getD_of hv] at fe
        rw [fe] at f1 f2
        refine ⟨by rw [List.length_map, sizeLine_eq]; omega, (c'.eraseIdx j).length, by omega, T1 ++ [(i, v)], c'.eraseIdx j, _, _, _, _, by unfold thD; rw [List.map_append]; rfl, .inr rfl, ?_, f2, ?_, f5.sublist (List.eraseIdx_sublist _ _), rfl⟩
        · rw [f1, List.append_assoc]
          rfl
        · rw [List.length_append]
          show T1.length + 1 + _ ≤ _
          omega
      cases hF : c'.filter fun x => decide (w + c'.sum ≤ ga + x) with
      | nil =>
        have hk0 := ks_none hF
        obtain ⟨v, hv⟩ : ∃ v, c'[ks ga w c']? = some v := ⟨_, List.getElem?_eq_getElem hks⟩
        have lastv : atI (nD c') (-1) = some (.int (v : Nat)) := atI_neg1 (n := ks ga w c') (by rw [nD_len]; omega) (nD_get hv)
        (walk_at "dl"; repeat (simp only [unwipe, Option.getD_some, lastv]; walk_at "dl"))
        rw [if_neg (by omega)]
        (walk_at "dl"; repeat (simp only [lastv]; walk_at "dl"))
        refine ix_first hv fun j hj hjv => ?_
        have ej : (j : Int) + 1 = ((j + 1 : Nat) : Int) := rfl
        (walk_at "dl"; repeat (simp only [ej, cutD_to, cutD_from, erase_eq2]; walk_at "dl"))
        exact ⟨by rw [List.length_take, List.length_drop, nD_len, sizeLine_eq]; omega, tail v _ hv j hj hjv⟩
      | cons f r =>
        have hv := ks_some hF
        (walk_at "dl"; repeat (simp only [unwipe, Option.getD_some, nD_len]; walk_at "dl"))
        rw [if_pos (by omega)]
        walk_at "dl"
        refine ix_first hv fun j hj hjv => ?_
        have ej : (j : Int) + 1 = ((j + 1 : Nat) : Int) := rfl
        (walk_at "dl"; repeat (simp only [ej, cutD_to, cutD_from, erase_eq2]; walk_at "dl"))
        exact ⟨by rw [List.length_take, List.length_drop, nD_len, sizeLine_eq]; omega, tail f _ hv j hj hjv⟩
end K88

set_option Elab.async false
set_option linter.all false
set_option maxRecDepth 100000
set_option maxHeartbeats 4000000
namespace K88
open PySem PySem.Spec PyProof.Rows L2 DL LW
theorem canN : ∀ l : List Nat, PyData.canLayAll0 (pyDs (nD l)) = true
  | [] => rfl
  | a :: l => by
    show (PyData.canLay0 (.int (a : Nat)) && PyData.canLayAll0 (pyDs (nD l))) = true
    rw [canN l]
    rfl
theorem depN : ∀ l : List Nat, PyData.depthAll (pyDs (nD l)) ≤ 1
  | [] => Nat.zero_le _
  | a :: l => by
    have := depN l
    show max (PyData.depth (.int (a : Nat))) (PyData.depthAll (pyDs (nD l))) ≤ 1
    exact Nat.max_le.mpr ⟨by simp [PyData.depth], this⟩
theorem shN (l : List Nat) : shD (.lst (nD l)) := by
  unfold shD SeqAt.shaped
  have h1 := canN l
  have h2 := depN l
  show (PyData.canLay0 (.list (pyDs (nD l))) && decide (PyData.depth (.list (pyDs (nD l))) ≤ 64)) = true
  rw [Bool.and_eq_true]
  refine ⟨by rw [PyData.canLay0]; exact h1, decide_eq_true ?_⟩
  rw [PyData.depth]
  omega
theorem eqN0 (l : List Nat) : eqD (.lst (nD l)) (.lst []) = decide (l.length = 0) := by
  cases l with
  | nil => exact eq_nil
  | cons a l => rfl
theorem ks_find {g w : Nat} {b : List Nat} : ks g w b = match ((List.range b.length).filter fun k => decide (w + b.sum ≤ g + b.getD k 0)).head? with | some k => k | none => b.length - 1 := by
  unfold ks
  rw [List.head?_filter]
  all_goals rfl
theorem filt_idx {c : List Nat} {i s g : Nat} : ((List.range (i + 1)).filter fun k => decide (s ≤ g + c.getD k 0)) = if s ≤ g + c.getD i 0 then ((List.range i).filter fun k => decide (s ≤ g + c.getD k 0)) ++ [i] else (List.range i).filter fun k => decide (s ≤ g + c.getD k 0) := by
  rw [List.range_succ, List.filter_append]
  split
  · rename_i z
    simp only [List.filter_cons, decide_eq_true z, List.filter_nil, if_true]
  · rename_i z
    simp only [List.filter_cons, decide_eq_false z, List.filter_nil, List.append_nil]
    simp
def sp_fly : PSp := sp_flight
theorem fly_ok (ds q x) (h : sp_fly ds q x) : T__law_fly sp_row (SEr q x) (startE N__law_fly ds) := by
  obtain ⟨g, p, w, bs, rfl, B, h⟩ := h
  obtain ⟨a, b, _⟩ := row_len B.p0 g g (Nat.le_refl g)
  have hg := B.g0; have hbl := B.bl
  unfold T__law_fly
  walk_at "dl"
  refine ⟨g, p, w, bs, rfl, B, ?_⟩
  walk_at "dl"
  refine ⟨bs.map fun n : Nat => (n : Int), nD_ints bs, fun ns' hp hs => ?_⟩
  obtain ⟨sb, e, hp, hs⟩ := nats_of hp hs
  rw [e]
  have h := h sb hp hs
  have hsl : sb.length = bs.length := hp.length_eq
  clear e
  (walk_at "dl"; repeat (simp only [nD_len]; walk_at "dl"))
  refine ⟨by omega, by omega, ?_⟩
  refine ⟨fun i ρ => ∃ (T : List (Nat × Nat)) (R : List (List Nat)) (c : List Nat) (s9 s10 s11 : Sl), ρ = [.va (BL g p w bs), .va (.int g), .va (.int p), .va (.int w), .va (.tup (nD bs)), .ow (.lst (nD (row p g))), .ow (.lst (nD c)), .ow (.lst (thD T)), .ow (.lst (rwD R)), s9, s10, s11] ∧ ownS (some s10) = none ∧
    (flS w 0 (row p g) sb).1 = T ++ (flS w i ((row p g).drop i) c).1 ∧ (flS w 0 (row p g) sb).2 = R ++ (flS w i ((row p g).drop i) c).2 ∧ R.length = i ∧ T.length + c.length ≤ sb.length ∧ c.Pairwise (· ≤ ·),
    ⟨[], [], sb, _, _, _, rfl, rfl, rfl, rfl, rfl, by simp, hs⟩, fun i d ρ hd hP => ?_, fun ρ hP => ?_⟩
  rotate_left
  · obtain ⟨T, R, c, s9, s10, s11, rfl, _, e1, e2, e3, e4, e5⟩ := hP
    rw [rng_len, Int.toNat_natCast, List.drop_length] at e1 e2
    have e1 : (flS w 0 (row p g) sb).1 = T := e1.trans (List.append_nil T)
    have e2 : (flS w 0 (row p g) sb).2 = R := e2.trans (List.append_nil R)
    rw [e1, e2] at h
    walk_at "dl"
    exact h
  obtain ⟨hi, rfl⟩ := rng_get hd
  obtain ⟨T, R, c, s9, s10, s11, rfl, hs10, e1, e2, e3, e4, e5⟩ := hP
  have hi : i < (row p g).length := by omega
  obtain ⟨gi, hgi⟩ : ∃ gi, gi = ga p g i := ⟨_, rfl⟩
  have hv := row_at B.p0 hi
  rw [← hgi] at hv
  have hix : atI (nD (row p g)) (0 + (i : Int)) = some (.int (gi : Nat)) := atI_at (by omega) (nD_get hv)
  have hdrop : (row p g).drop i = gi :: (row p g).drop (i + 1) := by
    rw [List.drop_eq_getElem_cons hi]
    congr 1
    exact (List.getElem?_eq_some_iff.mp hv).2
  rw [hdrop, flS] at e1 e2
  have glen : (rwD R).length < sizeLine := by
    rw [List.length_map, sizeLine_eq]
    omega
  walk_at "dl"
  refine ⟨fun m ρ => ∃ (T : List (Nat × Nat)) (c' : List Nat) (s10 s11 : Sl), ρ = [.va (BL g p w bs), .va (.int g), .va (.int p), .va (.int w), .va (.tup (nD bs)), .ow (.lst (nD (row p g))), .ow (.lst (nD c')), .ow (.lst (thD T)), .ow (.lst (rwD R)), .va (.int (0 + (i : Int))), s10, s11] ∧ ownS (some s10) = none ∧
      (flS w 0 (row p g) sb).1 = T ++ ((fl w gi c'.length c').1.map (fun x => (i, x)) ++ (flS w (i + 1) ((row p g).drop (i + 1)) (fl w gi c.length c).2).1) ∧ (fl w gi c'.length c').2 = (fl w gi c.length c).2 ∧ T.length + c'.length ≤ sb.length ∧ c'.Pairwise (· ≤ ·) ∧ m = c'.length,
      ⟨c.length, T, c, s10, s11, rfl, hs10, e1, rfl, e4, e5, rfl⟩, fun m ρ hP => ?_⟩
  obtain ⟨T1, c', s10, s11, rfl, hs10, f1, f2, f4, f5, rfl⟩ := hP
  have fin : (c'.length = 0 ∨ ¬ gi < w + c'.sum) → ∃ (T : List (Nat × Nat)) (R' : List (List Nat)) (c'' : List Nat) (s9 s10' s11' : Sl), [.va (BL g p w bs), .va (.int g), .va (.int p), .va (.int w), .va (.tup (nD bs)), .ow (.lst (nD (row p g))), .ow (.lst (nD c')), .ow (.lst (thD T1)), .ow (.lst (rwD R ++ [D.tup (nD c')])), .va (.int (0 + (i : Int))), s10, s11] = [Sl.va (BL g p w bs), .va (.int g), .va (.int p), .va (.int w), .va (.tup (nD bs)), .ow (.lst (nD (row p g))), .ow (.lst (nD c'')), .ow (.lst (thD T)), .ow (.lst (rwD R')), s9, s10', s11'] ∧ ownS (some s10') = none ∧
        (flS w 0 (row p g) sb).1 = T ++ (flS w (i + 1) ((row p g).drop (i + 1)) c'').1 ∧ (flS w 0 (row p g) sb).2 = R' ++ (flS w (i + 1) ((row p g).drop (i + 1)) c'').2 ∧ R'.length = i + 1 ∧ T.length + c''.length ≤ sb.length ∧ c''.Pairwise (· ≤ ·) := fun hst => by
    rw [fl_stop hst] at f1 f2
    have f2 : c' = (fl w gi c.length c).2 := f2
    rw [← f2] at f1 e2
    exact ⟨T1, R ++ [c'], c', _, _, _, by unfold rwD; rw [List.map_append]; rfl, hs10, f1, by rw [e2, List.append_assoc]; rfl, by rw [List.length_append, e3]; rfl, f4, f5⟩
  have hsum := sum_cast c'
  have sh0 : shD (.lst []) := rfl
  by_cases h0 : c'.length = 0
  · have fin := fin (.inl h0)
    walk_at "dl"
    refine ⟨shN c', sh0, ?_⟩
    rw [eqN0, decide_eq_true h0]
    walk_at "dl"
    exact ⟨glen, fin⟩
  by_cases hg1 : gi < w + c'.sum
  rotate_left
  · have fin := fin (.inr hg1)
    walk_at "dl"
    refine ⟨shN c', sh0, ?_⟩
    rw [eqN0, decide_eq_false h0]
    (walk_at "dl"; repeat (simp only [hix]; walk_at "dl"))
    refine ⟨_, nD_ints c', ?_⟩
    rw [hsum]
    walk_at "dl"
    rw [if_neg (by omega)]
    walk_at "dl"
    exact ⟨glen, fin⟩
  clear fin
  walk_at "dl"
  refine ⟨shN c', sh0, ?_⟩
  rw [eqN0, decide_eq_false h0]
  (walk_at "dl"; repeat (simp only [hix]; walk_at "dl"))
  refine ⟨_, nD_ints c', ?_⟩
  rw [hsum]
  walk_at "dl"
  rw [if_pos (by omega)]
  (walk_at "dl"; repeat (simp only [nD_len]; walk_at "dl"))
  refine ⟨by omega, by omega, ?_⟩
  refine ⟨by show ((ownS (some s10)).isNone && true) = true; rw [hs10]; rfl, fun k acc ρ => acc = nD ((List.range k).filter fun k => decide (w + c'.sum ≤ gi + c'.getD k 0)) ∧ ρ = [.va (BL g p w bs), .va (.int g), .va (.int p), .va (.int w), .va (.tup (nD bs)), .ow (.lst (nD (row p g))), .ow (.lst (nD c')), .ow (.lst (thD T1)), .ow (.lst (rwD R)), .va (.int (0 + (i : Int))), .no, s11], ⟨rfl, rfl⟩, fun k d acc ρ hd hP => ?_, fun acc ρ hP => ?_⟩
  · obtain ⟨hk, rfl⟩ := rng_get hd
    obtain ⟨rfl, rfl⟩ := hP
    have hk : k < c'.length := by omega
    have hck : c'[k]? = some (c'.getD k 0) := by rw [List.getD_eq_getElem?_getD, List.getElem?_eq_getElem hk]; rfl
    have hixk : atI (nD c') (0 + (k : Int)) = some (.int (c'.getD k 0 : Nat)) := atI_at (by omega) (nD_get hck)
    have hfl : ((List.range k).filter fun k => decide (w + c'.sum ≤ gi + c'.getD k 0)).length ≤ k := Nat.le_trans (List.length_filter_le _ _) (by rw [List.length_range]; exact Nat.le_refl k)
    have fs := filt_idx (c := c') (i := k) (s := w + c'.sum) (g := gi)
    (walk_at "dl"; repeat (simp only [hix]; walk_at "dl"))
    refine ⟨_, nD_ints c', ?_⟩
    rw [hsum]
    (walk_at "dl"; repeat (simp only [hixk]; walk_at "dl"))
    split
    · rename_i z
      rw [if_pos (by omega)] at fs
      walk_at "dl"
      refine ⟨by rw [nD_len, sizeLine_eq]; omega, ?_, rfl⟩
      rw [fs, Int.zero_add]
      unfold nD
      rw [List.map_append]
      rfl
    · rename_i z
      rw [if_neg (by omega)] at fs
      walk_at "dl"
      exact ⟨by rw [fs], rfl⟩
  · obtain ⟨rfl, rfl⟩ := hP
    rw [rng_len, Int.toNat_natCast]
    have hks := ks_lt (g := gi) (w := w) (b := c') (by omega)
    have fe := fl_eq (w := w) (g := gi) (b := c') (by omega) hg1
    have hkf := ks_find (g := gi) (w := w) (b := c')
    obtain ⟨kk, hkk⟩ : ∃ kk, kk = ks gi w c' := ⟨_, rfl⟩
    rw [← hkk] at hks fe hkf
    have hcv : c'[kk]? = some (c'.getD kk 0) := by rw [List.getD_eq_getElem?_getD, List.getElem?_eq_getElem hks]; rfl
    have hixv : atI (nD c') (kk : Int) = some (.int (c'.getD kk 0 : Nat)) := atI_at rfl (nD_get hcv)
    have el : (c'.eraseIdx kk).length = c'.length - 1 := List.length_eraseIdx_of_lt hks
    rw [fe] at f1 f2
    have hcat : (List.take kk (nD c')).length + (List.drop (kk + 1) (nD c')).length ≤ sizeLine := by rw [List.length_take, List.length_drop, nD_len, sizeLine_eq]; omega
    have ht1 : (thD T1).length < sizeLine := by rw [List.length_map, sizeLine_eq]; omega
    have tail : ∀ s11', ∃ n, n < c'.length ∧ ∃ (T : List (Nat × Nat)) (c'' : List Nat) (s10 s11 : Sl), [Sl.va (BL g p w bs), .va (.int g), .va (.int p), .va (.int w), .va (.tup (nD bs)), .ow (.lst (nD (row p g))), .ow (.lst (nD (c'.eraseIdx kk))), .ow (.lst (thD T1 ++ [D.tup [.int (0 + (i : Int)), .int (c'.getD kk 0 : Nat)]])), .ow (.lst (rwD R)), .va (.int (0 + (i : Int))), .va (.int (kk : Nat)), s11'] = [.va (BL g p w bs), .va (.int g), .va (.int p), .va (.int w), .va (.tup (nD bs)), .ow (.lst (nD (row p g))), .ow (.lst (nD c'')), .ow (.lst (thD T)), .ow (.lst (rwD R)), .va (.int (0 + (i : Int))), s10, s11] ∧ ownS (some s10) = none ∧
        (flS w 0 (row p g) sb).1 = T ++ ((fl w gi c''.length c'').1.map (fun x => (i, x)) ++ (flS w (i + 1) ((row p g).drop (i + 1)) (fl w gi c.length c).2).1) ∧ (fl w gi c''.length c'').2 = (fl w gi c.length c).2 ∧ T.length + c''.length ≤ sb.length ∧ c''.Pairwise (· ≤ ·) ∧ n = c''.length := fun s11' => by
      refine ⟨(c'.eraseIdx kk).length, by omega, T1 ++ [(i, c'.getD kk 0)], c'.eraseIdx kk, _, _, by rw [Int.zero_add]; unfold thD; rw [List.map_append]; rfl, rfl, ?_, f2, ?_, f5.sublist (List.eraseIdx_sublist _ _), rfl⟩
      · rw [f1, List.append_assoc]
        rfl
      · rw [List.length_append]
        show T1.length + 1 + _ ≤ _
        omega
    have ek : (kk : Int) + 1 = ((kk + 1 : Nat) : Int) := rfl
    cases hF : (List.range c'.length).filter fun k => decide (w + c'.sum ≤ gi + c'.getD k 0) with
    | nil =>
      rw [hF] at hkf
      have hkf : kk = c'.length - 1 := hkf
      have ekk : (c'.length : Int) - 1 = (kk : Int) := by omega
      (walk_at "dl"; repeat (simp only [unwipe, Option.getD_some]; walk_at "dl"))
      refine ⟨sh0, sh0, ?_⟩
      rw [eq_nil]
      (walk_at "dl"; repeat (simp only [nD_len, ekk, hixv, ek, cutD_to, cutD_from, erase_eq2]; walk_at "dl"))
      exact ⟨ht1, hcat, tail _⟩
    | cons f r =>
      rw [hF] at hkf
      have hkf : kk = f := hkf
      subst hkf
      have sh1 := shN (kk :: r)
      have eq1 := eqN0 (kk :: r)
      (walk_at "dl"; repeat (simp only [unwipe, Option.getD_some]; walk_at "dl"))
      refine ⟨sh1, sh0, ?_⟩
      have eq2 : ∀ z : List D, eqD (.lst (.int (kk : Nat) :: z)) (.lst []) = false := fun z => rfl
      rw [eq2]
      have hx0 : ∀ z : List D, atI (.int (kk : Nat) :: z) 0 = some (.int (kk : Nat)) := fun z => atI_at (n := 0) rfl rfl
      (walk_at "dl"; repeat (simp only [hx0, nD_len, hixv, ek, cutD_to, cutD_from, erase_eq2]; walk_at "dl"))
      exact ⟨ht1, hcat, tail _⟩
end K88

set_option Elab.async false
set_option linter.all false
set_option maxRecDepth 100000
set_option maxHeartbeats 4000000
namespace K88
open PySem PySem.Spec PyProof.Rows L2 DL LW
def bgB : D → Bool
  | .tup xs => decide (xs.length ≤ 10) && xs.all fun d => numB d 1 100
  | _ => false
def bgOk : D → Bool
  | .tup xs => xs.all fun d => !isOp d
  | .op _ => false
  | _ => true
def blB : D → Bool
  | .tup [a, b, c, d] => numB a 1 1000 && (numB b 2 20 && (numB c 0 500 && bgB d))
  | _ => false
def blOk : D → Bool
  | .tup [a, b, c, d] => !isOp a && (!isOp b && (!isOp c && bgOk d))
  | .op _ => false
  | _ => true
def sp_is_bl : PSp := fun ds q _ => ∃ v, ds = [v] ∧ blOk v = true ∧ q (.d (.bl (blB v)))
theorem is_bl_ok (ds q x) (h : sp_is_bl ds q x) : T_is_balloon sp_is_number (SEr q x) (startE N_is_balloon ds) := by
  obtain ⟨v, rfl, ho, h⟩ := h
  unfold T_is_balloon
  match v, ho, h with
  | .non, _, h => walk_at "dl"; exact h
  | .bl _, _, h => walk_at "dl"; exact h
  | .int _, _, h => walk_at "dl"; exact h
  | .str _, _, h => walk_at "dl"; exact h
  | .lst _, _, h => walk_at "dl"; exact h
  | .fz _, _, h => walk_at "dl"; exact h
  | .dic _, _, h => walk_at "dl"; exact h
  | .dit _, _, h => walk_at "dl"; exact h
  | .tup [], _, h => walk_at "dl"; exact h
  | .tup [_], _, h => walk_at "dl"; exact h
  | .tup [_, _], _, h => walk_at "dl"; exact h
  | .tup [_, _, _], _, h => walk_at "dl"; exact h
  | .tup (_ :: _ :: _ :: _ :: _ :: xs), _, h =>
    walk_at "dl"
    rw [if_neg (by omega)]
    exact h
  | .tup [a, b, c, d], ho, h =>
    walk_at "dl"
    have h : q (.d (.bl (numB a 1 1000 && (numB b 2 20 && (numB c 0 500 && bgB d))))) := h
    have ho : (!isOp a && (!isOp b && (!isOp c && bgOk d))) = true := ho
    simp only [Bool.and_eq_true, Bool.not_eq_true'] at ho
    obtain ⟨oa, ob, oc, od⟩ := ho
    refine ⟨_, _, _, rfl, oa, ?_⟩
    walk_at "dl"
    cases e1 : numB a 1 1000 with
    | false => rw [e1] at h; walk_at "dl"; exact h
    | true =>
    rw [e1] at h
    walk_at "dl"
    refine ⟨_, _, _, rfl, ob, ?_⟩
    walk_at "dl"
    cases e2 : numB b 2 20 with
    | false => rw [e2] at h; walk_at "dl"; exact h
    | true =>
    rw [e2] at h
    walk_at "dl"
    refine ⟨_, _, _, rfl, oc, ?_⟩
    walk_at "dl"
    cases e3 : numB c 0 500 with
    | false => rw [e3] at h; walk_at "dl"; exact h
    | true =>
    rw [e3] at h
    match d, od, h with
    | .non, _, h => walk_at "dl"; exact h
    | .bl _, _, h => walk_at "dl"; exact h
    | .int _, _, h => walk_at "dl"; exact h
    | .str _, _, h => walk_at "dl"; exact h
    | .lst _, _, h => walk_at "dl"; exact h
    | .fz _, _, h => walk_at "dl"; exact h
    | .dic _, _, h => walk_at "dl"; exact h
    | .dit _, _, h => walk_at "dl"; exact h
    | .tup xs, od, h =>
      have od : (xs.all fun d => !isOp d) = true := od
      have h : q (.d (.bl (decide (xs.length ≤ 10) && xs.all fun d => numB d 1 100))) := h
      (walk_at "dl"; repeat (simp only [tAllN_]; walk_at "dl"))
      split
      · rename_i z
        rw [decide_eq_true (by omega)] at h
        (walk_at "dl"; repeat (simp only [tAllN_]; walk_at "dl"))
        exact ⟨od, h⟩
      · rename_i z
        rw [decide_eq_false (by omega)] at h
        walk_at "dl"
        exact h
def sp_thrown : PSp := fun ds q _ => ∃ g p w bs, ds = [BL g p w bs] ∧ Bl g p w bs ∧ ∀ sb : List Nat, sb.Perm bs → sb.Pairwise (· ≤ ·) → q (.d (.tup (thD (flS w 0 (row p g) sb).1)))
theorem thrown_ok (ds q x) (h : sp_thrown ds q x) : T_thrown_by sp_flight (SEr q x) (startE N_thrown_by ds) := by
  obtain ⟨g, p, w, bs, rfl, B, h⟩ := h
  unfold T_thrown_by
  walk_at "dl"
  refine ⟨g, p, w, bs, rfl, B, fun sb hp hs => ?_⟩
  have h := h sb hp hs
  walk_at "dl"
  exact h
def sp_bags : PSp := fun ds q _ => ∃ g p w bs, ∃ h : Int, ds = [BL g p w bs, .int h] ∧ Bl g p w bs ∧ 0 ≤ h ∧ ∀ sb : List Nat, sb.Perm bs → sb.Pairwise (· ≤ ·) → ∀ r, (flS w 0 (row p g) sb).2[min h.toNat ((row p g).length - 1)]? = some r → q (.d (.tup (nD r)))
theorem rwD_len (R : List (List Nat)) : (rwD R).length = R.length := List.length_map ..
theorem bags_ok (ds q x) (h : sp_bags ds q x) : T_bags_at sp_flight (SEr q x) (startE N_bags_at ds) := by
  obtain ⟨g, p, w, bs, hr, rfl, B, h0, h⟩ := h
  obtain ⟨a, b, _⟩ := row_len B.p0 g g (Nat.le_refl g)
  have hg := B.g0
  unfold T_bags_at
  walk_at "dl"
  refine ⟨g, p, w, bs, rfl, B, fun sb hp hs => ?_⟩
  have h := h sb hp hs
  have fl := (flS_len w (row p g) 0 sb).1
  have hlt : min hr.toNat ((row p g).length - 1) < (flS w 0 (row p g) sb).2.length := by omega
  have h := h _ (List.getElem?_eq_getElem hlt)
  have e : (if hr > ((row p g).length : Int) - 1 then ((row p g).length : Int) - 1 else hr) = ((min hr.toNat ((row p g).length - 1) : Nat) : Int) := by split <;> omega
  have e2 : (if ((row p g).length : Int) - 1 < hr then ((row p g).length : Int) - 1 else hr) = ((min hr.toNat ((row p g).length - 1) : Nat) : Int) := by split <;> omega
  have ix : atI (rwD (flS w 0 (row p g) sb).2) ((min hr.toNat ((row p g).length - 1) : Nat) : Int) = some (.tup (nD ((flS w 0 (row p g) sb).2[min hr.toNat ((row p g).length - 1)]))) := atI_at rfl (by rw [List.getElem?_map, List.getElem?_eq_getElem hlt]; rfl)
  (walk_at "dl"; repeat (simp only [rwD_len, fl, e, e2, ix]; walk_at "dl"))
  exact h
def spare (g p w : Nat) : Option Nat → Nat
  | none => 0
  | some h => ga p g (h - 1) - w
def sp_few : PSp := fun ds q _ => ∃ g p w bs, ds = [BL g p w bs] ∧ Bl g p w bs ∧ ((low p g w).head? = some 0 → q (.d (.int (0 : Nat)))) ∧
  (∀ d, (low p g w).head? = d → d ≠ some 0 → ∀ (sb : List Nat) (k : Nat), sb.Perm bs → sb.Pairwise (· ≤ ·) → k ≤ sb.length → (sb.take k).sum ≤ spare g p w d → (k = sb.length ∨ spare g p w d < (sb.take (k + 1)).sum) → q (.d (.int (sb.length - k : Nat))))
theorem few_loop (ds q x) (h : sp_few ds q x) : T_fewest_throws sp_hours sp_at (SEr q x) (startE N_fewest_throws ds) := by
  obtain ⟨g, p, w, bs, rfl, B, h1, h2⟩ := h
  have hbl := B.bl
  have tail : ∀ (d : Option Nat) (sb : List Nat), (low p g w).head? = d → d ≠ some 0 → sb.Perm bs → sb.Pairwise (· ≤ ·) → ∀ s5, sSeq (sSet 4 (tK (.int 0)))
    (sSeq (sWhile (bAnd (tT (t2 (fLt) (tV 4) (tC' fLen (aCons (tV 2) aNil)))) (tT (t2 (fLe) (tC' fSumA (aCons (tSl' (tV 2) oNone (oSome (t2 fAdd (tV 4) (tK (.int 1))))) aNil)) (tV 3)))) (sAug (fI0 fun i j => .int (i + j)) 4 (tK (.int 1))))
    (sRet (t2 fSub (tC' fLen (aCons (tV 2) aNil)) (tV 4)))) (SEr q x) [.va (BL g p w bs), .va (optN d), .ow (.lst (nD sb)), .va (.int (spare g p w d : Nat)), s5] := by
    intro d sb hd hd0 hp hs s5
    have h2 := h2 d hd hd0 sb
    have hl := hp.length_eq
    generalize spare g p w d = S at *
    walk_at "dl"
    refine ⟨fun m ρ => ∃ k : Nat, k ≤ sb.length ∧ (sb.take k).sum ≤ S ∧ m = sb.length - k ∧ ρ = [.va (BL g p w bs), .va (optN d), .ow (.lst (nD sb)), .va (.int (S : Nat)), .va (.int k)], ⟨_, 0, Nat.zero_le _, Nat.zero_le _, rfl, rfl⟩, fun m ρ hP => ?_⟩
    obtain ⟨k, hk, hsum, rfl, rfl⟩ := hP
    have h2 := h2 k hp hs hk hsum
    have ek : (k : Int) + 1 = ((k + 1 : Nat) : Int) := rfl
    have et : (nD sb).take (k + 1) = nD (sb.take (k + 1)) := by unfold nD; rw [List.map_take]
    by_cases hkl : k < sb.length
    · (walk_at "dl"; repeat (simp only [nD_len]; walk_at "dl"))
      rw [if_pos (by omega)]
      (walk_at "dl"; repeat (simp only [ek, cutD_to, et]; walk_at "dl"))
      refine ⟨_, nD_ints _, ?_⟩
      rw [sum_cast]
      walk_at "dl"
      split
      · rename_i z
        walk_at "dl"
        exact ⟨_, by omega, k + 1, by omega, by omega, rfl, rfl⟩
      · rename_i z
        (walk_at "dl"; repeat (simp only [nD_len]; walk_at "dl"))
        rw [show (sb.length : Int) - (k : Int) = ((sb.length - k : Nat) : Int) by omega]
        exact h2 (.inr (by omega))
    · (walk_at "dl"; repeat (simp only [nD_len]; walk_at "dl"))
      rw [if_neg (by omega)]
      (walk_at "dl"; repeat (simp only [nD_len]; walk_at "dl"))
      rw [show (sb.length : Int) - (k : Int) = ((sb.length - k : Nat) : Int) by omega]
      exact h2 (.inl (by omega))
  unfold T_fewest_throws
  refine sSeq_via (fun ρ' => ∃ sb : List Nat, sb.Perm bs ∧ sb.Pairwise (· ≤ ·) ∧ ρ' = [.va (BL g p w bs), .va (optN (low p g w).head?), .ow (.lst (nD sb)), .no, .no]) (fun N hN => ?_) (fun ρ' hρ => ?_)
  · walk_at "dl"
    refine ⟨g, p, w, bs, rfl, B, ?_⟩
    walk_at "dl"
    refine ⟨bs.map fun n : Nat => (n : Int), nD_ints bs, fun ns' hp hs => ?_⟩
    obtain ⟨sb, e, hp, hs⟩ := nats_of hp hs
    rw [e]
    walk_at "dl"
    exact hN _ ⟨sb, hp, hs, rfl⟩
  obtain ⟨sb, hp, hs, rfl⟩ := hρ
  cases hd : (low p g w).head? with
  | none =>
    have tail := tail none sb hd (by simp) hp hs
    generalize sSeq (sSet 4 (tK (.int 0))) _ = N at *
    show sSeq _ _ _ [.va (BL g p w bs), .va .non, .ow (.lst (nD sb)), .no, .no]
    walk_at "dl"
    exact tail _
  | some h =>
    have tail := tail (some h) sb hd
    generalize sSeq (sSet 4 (tK (.int 0))) _ = N at *
    show sSeq _ _ _ [.va (BL g p w bs), .va (.int (h : Nat)), .ow (.lst (nD sb)), .no, .no]
    have h1 := fun z => h1 (hd.trans z)
    cases h with
    | zero =>
      walk_at "dl"
      exact h1 rfl
    | succ k =>
      have tail := tail (by simp) hp hs
      obtain ⟨a, b, c⟩ := low_head hd
      have b := b k (by omega)
      have hm : min ((((k + 1 : Nat) : Int) - 1).toNat) ((row p g).length - 1) = k := by omega
      walk_at "dl"
      rw [if_neg (by omega)]
      walk_at "dl"
      refine ⟨g, p, w, bs, _, rfl, B, by omega, ?_⟩
      rw [hm]
      walk_at "dl"
      rw [show ((ga p g k : Nat) : Int) - (w : Int) = ((ga p g k - w : Nat) : Int) by omega]
      exact tail _
end K88

set_option Elab.async false
set_option linter.all false
set_option maxRecDepth 100000
set_option maxHeartbeats 4000000
namespace K88
open PySem PySem.Spec PyProof.Rows L2 DL
theorem take_shift : ∀ (l : List Nat) (a n : Nat), (a :: l).Pairwise (· ≤ ·) → n ≤ l.length → ((a :: l).take n).sum ≤ (l.take n).sum
  | l, a, 0, _, _ => by simp
  | [], a, n + 1, _, h => absurd h (by simp)
  | b :: l, a, n + 1, h, hn => by
    have h1 := List.pairwise_cons.mp h
    have := take_shift l b n h1.2 (by simpa using hn)
    have ab := h1.1 b List.mem_cons_self
    rw [List.take_succ_cons, List.take_succ_cons, List.sum_cons, List.sum_cons]
    omega
theorem take_least {t sb : List Nat} (h : t.Sublist sb) : sb.Pairwise (· ≤ ·) → (sb.take t.length).sum ≤ t.sum := by
  induction h with
  | slnil => intro _; simp
  | @cons t l a h ih =>
    intro hs
    exact Nat.le_trans (take_shift l a t.length hs h.length_le) (ih (List.pairwise_cons.mp hs).2)
  | @cons_cons t l a h ih =>
    intro hs
    have := ih (List.pairwise_cons.mp hs).2
    rw [List.length_cons, List.take_succ_cons, List.sum_cons, List.sum_cons]
    omega
theorem take_mono_sum (l : List Nat) {i j : Nat} (h : i ≤ j) : (l.take i).sum ≤ (l.take j).sum := by
  have : l.take i = (l.take j).take i := by rw [List.take_take, Nat.min_eq_left h]
  rw [this]
  have e := List.take_append_drop i (l.take j)
  have : (l.take j).sum = ((l.take j).take i).sum + ((l.take j).drop i).sum := by rw [← List.sum_append, e]
  omega
theorem greedy_most {bs sb s : List Nat} {k S : Nat} (hp : sb.Perm bs) (hs : sb.Pairwise (· ≤ ·)) (hk : k = sb.length ∨ S < (sb.take (k + 1)).sum) (h : s.Sublist bs) (hS : s.sum ≤ S) : s.length ≤ k := by
  obtain ⟨t, ht, hts⟩ := List.exists_perm_sublist h hp.symm
  have h1 := take_least hts hs
  have h2 := ht.length_eq
  have h3 : t.sum = s.sum := ht.sum_nat
  have h4 := hts.length_le
  rcases hk with rfl | hk
  · omega
  · rcases Nat.lt_or_ge k s.length with z | z
    · have := take_mono_sum sb (show k + 1 ≤ t.length by omega)
      omega
    · exact z
theorem greedy_some {bs sb : List Nat} {k : Nat} (hp : sb.Perm bs) (hk : k ≤ sb.length) : ∃ s : List Nat, s.Sublist bs ∧ s.length = k ∧ s.sum = (sb.take k).sum := by
  obtain ⟨t, ht, hts⟩ := List.exists_perm_sublist (List.take_sublist k sb) hp
  refine ⟨t, hts, ?_, ht.sum_nat⟩
  rw [ht.length_eq, List.length_take]
  omega
/-- all the parts, as the law lists them -/
def kp (bs : List Nat) : Nat → List (List Nat)
  | 0 => [[]]
  | i + 1 => kp bs i ++ (kp bs i).map (· ++ [bs.getD i 0])
theorem kp_len (bs : List Nat) : ∀ i, (kp bs i).length = 2 ^ i
  | 0 => rfl
  | i + 1 => by
    rw [kp, List.length_append, List.length_map, kp_len bs i, Nat.pow_succ]
    omega
theorem sub_last {s l : List Nat} {a : Nat} (h : s.Sublist (l ++ [a])) : s.Sublist l ∨ ∃ s', s = s' ++ [a] ∧ s'.Sublist l := by
  obtain ⟨s1, s2, rfl, h1, h2⟩ := List.sublist_append_iff.mp h
  cases h2 with
  | cons _ h2 =>
    obtain rfl := List.eq_nil_of_length_eq_zero (Nat.le_zero.mp h2.length_le)
    exact .inl (by rw [List.append_nil]; exact h1)
  | cons_cons _ h2 =>
    obtain rfl := List.eq_nil_of_length_eq_zero (Nat.le_zero.mp h2.length_le)
    exact .inr ⟨s1, rfl, h1⟩
theorem kp_mem {bs : List Nat} : ∀ {i : Nat}, i ≤ bs.length → ∀ s, s ∈ kp bs i ↔ s.Sublist (bs.take i)
  | 0, _, s => by simp [kp]
  | i + 1, h, s => by
    have hg : bs[i]? = some (bs.getD i 0) := by rw [List.getD_eq_getElem?_getD, List.getElem?_eq_getElem (by omega)]; rfl
    rw [kp, List.mem_append, List.mem_map, kp_mem (by omega), List.take_add_one, hg]
    constructor
    · rintro (h | ⟨s', h, rfl⟩)
      · exact h.trans (List.sublist_append_left _ _)
      · exact ((kp_mem (by omega) s').mp h).append (List.Sublist.refl _)
    · intro h
      rcases sub_last h with h | ⟨s', rfl, h5⟩
      · exact .inl h
      · exact .inr ⟨s', (kp_mem (by omega) s').mpr h5, rfl⟩
theorem kp_all {bs s : List Nat} : s ∈ kp bs bs.length ↔ s.Sublist bs := by
  rw [kp_mem (Nat.le_refl _), List.take_length]
end K88

set_option Elab.async false
set_option linter.all false
set_option maxRecDepth 100000
set_option maxHeartbeats 4000000
namespace K88
open PySem PySem.Spec PyProof.Rows L2 DL LW
theorem nums_ok : ∀ (bs : List Nat), ((nD bs).all fun d => !isOp d) = true
  | [] => rfl
  | b :: bs => nums_ok bs
theorem bl_ok {g p w : Nat} (bs : List Nat) : blOk (BL g p w bs) = true := nums_ok bs
theorem nums_true : ∀ (bs : List Nat), (∀ b ∈ bs, 1 ≤ b ∧ b ≤ 100) → ((nD bs).all fun d => numB d 1 100) = true
  | [], _ => rfl
  | b :: bs, h => by
    have hb := h b List.mem_cons_self
    show (numB (.int (b : Nat)) 1 100 && (nD bs).all fun d => numB d 1 100) = true
    rw [numB_t ⟨by omega, by omega⟩, nums_true bs fun b hb => h b (List.mem_cons_of_mem _ hb)]
    rfl
theorem bl_true {g p w : Nat} {bs : List Nat} (B : Bl g p w bs) (g0 : 1 ≤ g) (p0 : 2 ≤ p) (hl : bs.length ≤ 10) (h : ∀ b ∈ bs, 1 ≤ b ∧ b ≤ 100) : blB (BL g p w bs) = true := by
  have := B.g0; have := B.p1; have := B.w0
  show (numB (.int (g : Nat)) 1 1000 && (numB (.int (p : Nat)) 2 20 && (numB (.int (w : Nat)) 0 500 && (decide ((nD bs).length ≤ 10) && (nD bs).all fun d => numB d 1 100)))) = true
  rw [numB_t ⟨by omega, by omega⟩, numB_t ⟨by omega, by omega⟩, numB_t ⟨by omega, by omega⟩, nums_true bs h, nD_len, decide_eq_true hl]
  rfl
theorem rgC0 {n : Nat} (h1 : 1 ≤ n) (h2 : n < 1000000) : RgC 0 (n : Int) 3 ((n + 2) / 3) := by
  have e : Builtin.Range.rangeSize 0 (n : Int) 3 = (((n + 2) / 3 : Nat) : Int) := by
    unfold Builtin.Range.rangeSize
    rw [if_pos (by decide), if_pos (by omega)]
    omega
  refine ⟨by decide, by decide, ?_, e⟩
  unfold Builtin.Range.small
  rw [e]
  have h3 : (n + 2) / 3 ≤ n := by omega
  generalize (n + 2) / 3 = m at *
  rw [if_pos (by decide)]
  unfold Builtin.Range.rangeFitsLong
  have d1 : decide (-2 ^ 63 ≤ (n : Int)) = true := decide_eq_true (by omega)
  have d2 : decide ((n : Int) < 2 ^ 63) = true := decide_eq_true (by omega)
  have d3 : decide (-2 ^ 63 ≤ (m : Int)) = true := decide_eq_true (by omega)
  have d4 : decide ((m : Int) < 2 ^ 63) = true := decide_eq_true (by omega)
  have d5 : decide (-2 ^ 63 ≤ (n : Int) + (3 - 1)) = true := decide_eq_true (by omega)
  have d6 : decide ((n : Int) + (3 - 1) < 2 ^ 63) = true := decide_eq_true (by omega)
  have d7 : decide (-2 ^ 63 ≤ (0 : Int)) = true := by decide
  have d8 : decide ((0 : Int) < 2 ^ 63) = true := by decide
  have d9 : decide (-2 ^ 63 ≤ (3 : Int)) = true := by decide
  have d10 : decide ((3 : Int) < 2 ^ 63) = true := by decide
  rw [d1, d2, d3, d4, d5, d6, d7, d8, d9, d10]
  exact Bool.or_true _
abbrev kpD (L : List (List Nat)) : List D := L.map fun s => D.tup (nD s)
theorem kpD_get {L : List (List Nat)} {i : Nat} {d : D} (h : (kpD L)[i]? = some d) : ∃ s, L[i]? = some s ∧ d = .tup (nD s) := by
  rw [List.getElem?_map] at h
  obtain ⟨v, e, rfl⟩ := Option.map_eq_some_iff.mp h
  exact ⟨v, e, rfl⟩
def lastD (g p w : Nat) : Option Nat → D
  | none => .int (0 : Nat)
  | some 0 => .non
  | some (k + 1) => .int (ga p g k - w : Nat)
theorem bf2 {a b c d : D} (h : numB b 2 20 = false) : blB (.tup [a, b, c, d]) = false := by
  show (_ && (numB b 2 20 && (_ && _))) = false
  rw [h]
  simp
theorem bf3 {a b c d : D} (h : numB c 0 500 = false) : blB (.tup [a, b, c, d]) = false := by
  show (_ && (_ && (numB c 0 500 && _))) = false
  rw [h]
  simp
theorem bf4 {a b c d : D} (h : bgB d = false) : blB (.tup [a, b, c, d]) = false := by
  show (_ && (_ && (_ && bgB d))) = false
  rw [h]
  simp
theorem o1 {d : D} (h1 : blOk d = true) (h2 : blB d = false) : blOk d = true ∧ blB d = false := ⟨h1, h2⟩
theorem oc {a : D} {l : List D} (h : blOk a = true ∧ blB a = false) (t : ∀ d ∈ l, blOk d = true ∧ blB d = false) : ∀ d ∈ a :: l, blOk d = true ∧ blB d = false := fun d hd => by
  rcases List.mem_cons.mp hd with rfl | hd
  · exact h
  · exact t d hd
theorem on : ∀ d ∈ ([] : List D), blOk d = true ∧ blB d = false := fun d hd => absurd hd (by simp)
theorem fMul_t {xs : List D} {j : Int} {q : RV → Prop} : fMul (.tup xs) (.int j) q = (xs ≠ [] ∧ 2 ≤ j ∧ j ≤ 1000 ∧ xs.length ≤ 1000 ∧ q (.d (.tup (List.replicate j.toNat xs).flatten))) := rfl
theorem fIs_b {k i j : Bool} {q : RV → Prop} : fIs k (.bl i) (.bl j) q = q (.d (.bl (k ^^ decide (i = j)))) := rfl
def sp_law : PSp := fun ds q _ => ∃ ns : List Int, ds = [.fz (ns.map .int)] ∧ ns.length ≤ 63 ∧ (∀ z ∈ ns, Bt 1048576 z) ∧ q (.d (.bl true))
theorem law_ok (ds q x) (h : sp_law ds q x) : T_law sp_draws sp_take sp_row sp_fly sp_says sp_is_bl (sp_alikeN 3) sp_hours sp_thrown sp_at sp_bags sp_few (SEr q x) (startE N_law ds) := by
  obtain ⟨ns, rfl, hl, hb, h⟩ := h
  unfold T_law
  refine sSeq_via (fun ρ' => ∃ (rs : List Int), ρ' = [.va (.fz (ns.map .int)), .ow (.lst (rs.map .int)), .no, .no, .no, .no, .no, .no, .no, .no, .no, .no, .no, .no, .no, .no, .no, .no, .no, .no, .no, .no, .no]) (fun N hN => ?_) (fun ρ' hρ => ?_)
  · walk_at "dl"
    refine ⟨ns, rfl, hl, hb, fun rs1 => ?_⟩
    walk_at "dl"
    exact hN _ ⟨_, rfl⟩
  obtain ⟨rs, rfl⟩ := hρ
  clear hl hb
  refine sSeq_via (fun ρ' => ∃ (rs : List Int) (g p : Nat), (1 ≤ g ∧ g ≤ 1000 ∧ 2 ≤ p ∧ p ≤ 20) ∧ ρ' = [.va (.fz (ns.map .int)), .ow (.lst (rs.map .int)), .va (.int g), .va (.int p), .no, .no, .no, .no, .no, .no, .no, .no, .no, .no, .no, .no, .no, .no, .no, .no, .no, .no, .no]) (fun N hN => ?_) (fun ρ' hρ => ?_)
  · walk_at "dl"
    refine ⟨_, _, rfl, rfl, by decide, fun r1 rs1 r10 r11 => ?_⟩
    obtain ⟨t1, rfl⟩ := Int.eq_ofNat_of_zero_le r10
    have a1 : ∃ b : Int, 0 < b ∧ b ≤ 1000 ∧ atI [D.int 20, D.int 200, D.int 1000] (t1 : Int) = some (.int b) := by
      rcases (by omega : t1 = 0 ∨ t1 = 1 ∨ t1 = 2) with rfl | rfl | rfl
      · exact ⟨20, by decide, by decide, rfl⟩
      · exact ⟨200, by decide, by decide, rfl⟩
      · exact ⟨1000, by decide, by decide, rfl⟩
    obtain ⟨b1, b10, b11, ix1⟩ := a1
    (walk_at "dl"; repeat (simp only [ix1]; walk_at "dl"))
    refine ⟨_, _, rfl, rfl, b10, fun r2 rs2 r20 r21 => ?_⟩
    obtain ⟨t2, rfl⟩ := Int.eq_ofNat_of_zero_le r20
    walk_at "dl"
    refine ⟨_, _, rfl, rfl, by decide, fun r3 rs3 r30 r31 => ?_⟩
    obtain ⟨t3, rfl⟩ := Int.eq_ofNat_of_zero_le r30
    have a3 : ∃ b : Int, 0 < b ∧ b ≤ 19 ∧ atI [D.int 3, D.int 19] (t3 : Int) = some (.int b) := by
      rcases (by omega : t3 = 0 ∨ t3 = 1) with rfl | rfl
      · exact ⟨3, by decide, by decide, rfl⟩
      · exact ⟨19, by decide, by decide, rfl⟩
    obtain ⟨b3, b30, b31, ix3⟩ := a3
    (walk_at "dl"; repeat (simp only [ix3]; walk_at "dl"))
    refine ⟨_, _, rfl, rfl, b30, fun r4 rs4 r40 r41 => ?_⟩
    obtain ⟨t4, rfl⟩ := Int.eq_ofNat_of_zero_le r40
    walk_at "dl"
    exact hN _ ⟨rs4, 1 + t2, 2 + t4, ⟨by omega, by omega, by omega, by omega⟩, by rw [Int.natCast_add, Int.natCast_add]; rfl⟩
  obtain ⟨rs, g, p, ⟨g0, g1, p0, p1⟩, rfl⟩ := hρ
  refine sSeq_via (fun ρ' => ∃ (rs : List Int) (w : Nat), (w ≤ 500) ∧ ρ' = [.va (.fz (ns.map .int)), .ow (.lst (rs.map .int)), .va (.int g), .va (.int p), .va (.int w), .no, .no, .no, .no, .no, .no, .no, .no, .no, .no, .no, .no, .no, .no, .no, .no, .no, .no]) (fun N hN => ?_) (fun ρ' hρ => ?_)
  · walk_at "dl"
    refine ⟨_, _, rfl, rfl, by decide, fun r1 rs1 r10 r11 => ?_⟩
    obtain ⟨t1, rfl⟩ := Int.eq_ofNat_of_zero_le r10
    walk_at "dl"
    refine ⟨_, _, rfl, rfl, by decide, fun r2 rs2 r20 r21 => ?_⟩
    obtain ⟨t2, rfl⟩ := Int.eq_ofNat_of_zero_le r20
    walk_at "dl"
    refine ⟨_, _, rfl, rfl, by decide, fun r3 rs3 r30 r31 => ?_⟩
    obtain ⟨t3, rfl⟩ := Int.eq_ofNat_of_zero_le r30
    have a3 : ∃ b : Nat, b ≤ 500 ∧ atI [D.int 0, D.int (t1 : Int), D.int (t2 : Int)] (t3 : Int) = some (.int (b : Nat)) := by
      rcases (by omega : t3 = 0 ∨ t3 = 1 ∨ t3 = 2) with rfl | rfl | rfl
      · exact ⟨0, by decide, rfl⟩
      · exact ⟨t1, by omega, rfl⟩
      · exact ⟨t2, by omega, rfl⟩
    obtain ⟨b, b5, ix⟩ := a3
    (walk_at "dl"; repeat (simp only [ix]; walk_at "dl"))
    exact hN _ ⟨rs3, b, b5, rfl⟩
  obtain ⟨rs, w, hw, rfl⟩ := hρ
  refine sSeq_via (fun ρ' => ∃ (rs : List Int) (bs : List Nat), (bs.length ≤ 6 ∧ ∀ b ∈ bs, 1 ≤ b ∧ b ≤ 100) ∧ ρ' = [.va (.fz (ns.map .int)), .ow (.lst (rs.map .int)), .va (.int g), .va (.int p), .va (.int w), .no, .va (.tup (nD bs)), .no, .no, .no, .no, .no, .no, .no, .no, .no, .no, .no, .no, .no, .no, .no, .no]) (fun N hN => ?_) (fun ρ' hρ => ?_)
  · walk_at "dl"
    refine ⟨_, _, rfl, rfl, by decide, fun r1 rs1 r10 r11 => ?_⟩
    obtain ⟨t1, rfl⟩ := Int.eq_ofNat_of_zero_le r10
    walk_at "dl"
    refine ⟨by omega, by omega, ?_⟩
    refine ⟨rfl, fun i acc ρ => ∃ (rs : List Int) (bs : List Nat), bs.length = i ∧ (∀ b ∈ bs, 1 ≤ b ∧ b ≤ 100) ∧ acc = nD bs ∧ ρ = [.va (.fz (ns.map .int)), .ow (.lst (rs.map .int)), .va (.int g), .va (.int p), .va (.int w), .no, .no, .no, .no, .no, .no, .no, .no, .no, .no, .no, .no, .no, .no, .no, .no, .no, .no], ⟨rs1, [], rfl, by simp, rfl, rfl⟩, fun i d acc ρ hd hP => ?_, fun acc ρ hP => ?_⟩
    · obtain ⟨hi, rfl⟩ := rng_get hd
      obtain ⟨rs, bs, hlen, hbs, rfl, rfl⟩ := hP
      walk_at "dl"
      refine ⟨_, _, rfl, rfl, by decide, fun r3 rs3 r30 r31 => ?_⟩
      obtain ⟨t3, rfl⟩ := Int.eq_ofNat_of_zero_le r30
      have a3 : ∃ b : Int, 0 < b ∧ b ≤ 100 ∧ atI [D.int 9, D.int 100] (t3 : Int) = some (.int b) := by
        rcases (by omega : t3 = 0 ∨ t3 = 1) with rfl | rfl
        · exact ⟨9, by decide, by decide, rfl⟩
        · exact ⟨100, by decide, by decide, rfl⟩
      obtain ⟨b3, b30, b31, ix3⟩ := a3
      (walk_at "dl"; repeat (simp only [ix3]; walk_at "dl"))
      refine ⟨_, _, rfl, rfl, b30, fun r4 rs4 r40 r41 => ?_⟩
      obtain ⟨t4, rfl⟩ := Int.eq_ofNat_of_zero_le r40
      walk_at "dl"
      refine ⟨by rw [nD_len, sizeLine_eq]; omega, rs4, bs ++ [1 + t4], by rw [List.length_append, hlen]; rfl, fun b hb => ?_, ?_, rfl⟩
      · rcases List.mem_append.mp hb with hb | hb
        · exact hbs b hb
        · obtain rfl := List.mem_singleton.mp hb
          omega
      · unfold nD
        rw [List.map_append]
        show _ ++ [D.int (1 + (t4 : Int))] = _ ++ [D.int ((1 + t4 : Nat) : Int)]
        rw [Int.natCast_add]
        rfl
    · obtain ⟨rs, bs, hlen, hbs, rfl, rfl⟩ := hP
      rw [rng_len] at hlen
      walk_at "dl"
      exact hN _ ⟨rs, bs, ⟨by omega, hbs⟩, rfl⟩
  obtain ⟨rs, bs, ⟨hbl, hbs⟩, rfl⟩ := hρ
  refine sSeq_via (fun ρ' => ρ' = [.va (.fz (ns.map .int)), .ow (.lst (rs.map .int)), .va (.int g), .va (.int p), .va (.int w), .no, .va (.tup (nD bs)), .va (BL g p w bs), .no, .no, .no, .no, .no, .no, .no, .no, .no, .no, .no, .no, .no, .no, .no]) (fun N hN => ?_) (fun ρ' hρ => ?_)
  · walk_at "dl"
    exact hN _ rfl
  subst hρ
  have B : Bl g p w bs := ⟨g1, by omega, p1, hw, by omega, fun b hb => (hbs b hb).2⟩
  obtain ⟨rl, ru, rz⟩ := row_len B.p0 g g (Nat.le_refl g)
  refine sSeq_via (fun ρ' => ρ' = [.va (.fz (ns.map .int)), .ow (.lst (rs.map .int)), .va (.int g), .va (.int p), .va (.int w), .no, .va (.tup (nD bs)), .va (BL g p w bs), .ow (.lst (nD (row p g))), .no, .no, .no, .no, .no, .no, .no, .no, .no, .no, .no, .no, .no, .no]) (fun N hN => ?_) (fun ρ' hρ => ?_)
  · walk_at "dl"
    refine ⟨g, p, w, bs, rfl, B, ?_⟩
    walk_at "dl"
    exact hN _ rfl
  subst hρ
  refine sSeq_via (fun ρ' => ∃ (sb : List Nat), (sb.Perm bs ∧ sb.Pairwise (· ≤ ·)) ∧ ρ' = [.va (.fz (ns.map .int)), .ow (.lst (rs.map .int)), .va (.int g), .va (.int p), .va (.int w), .no, .va (.tup (nD bs)), .va (BL g p w bs), .ow (.lst (nD (row p g))), .va (.lst (thD (flS w 0 (row p g) sb).1)), .va (.lst (rwD (flS w 0 (row p g) sb).2)), .no, .no, .no, .no, .no, .no, .no, .no, .no, .no, .no, .no]) (fun N hN => ?_) (fun ρ' hρ => ?_)
  · walk_at "dl"
    refine ⟨g, p, w, bs, rfl, B, fun sb hp hs => ?_⟩
    walk_at "dl"
    exact hN _ ⟨sb, ⟨hp, hs⟩, rfl⟩
  obtain ⟨sb, ⟨hp, hs⟩, rfl⟩ := hρ
  have uniq : ∀ sb' : List Nat, sb'.Perm bs → sb'.Pairwise (· ≤ ·) → sb' = sb := fun sb' hp' hs' => sorted_uniq (hp'.trans hp.symm) hs' hs
  have fl1 := flS_len w (row p g) 0 sb
  have fle := flS_enough w (row p g) 0 sb
  have fls := flS_sub w (row p g) 0 sb
  have hsl := hp.length_eq
  generalize hTT : (flS w 0 (row p g) sb).1 = TT at *
  generalize hRR : (flS w 0 (row p g) sb).2 = RR at *
  refine sSeq_via (fun ρ' => ρ' = [.va (.fz (ns.map .int)), .ow (.lst (rs.map .int)), .va (.int g), .va (.int p), .va (.int w), .no, .va (.tup (nD bs)), .va (BL g p w bs), .ow (.lst (nD (row p g))), .va (.lst (thD TT)), .va (.lst (rwD RR)), .no, .ow (.lst (nD (low p g w))), .no, .no, .no, .no, .no, .no, .no, .no, .no, .no]) (fun N hN => ?_) (fun ρ' hρ => ?_)
  · (walk_at "dl"; repeat (simp only [nD_len]; walk_at "dl"))
    refine ⟨by omega, by omega, ?_⟩
    refine ⟨rfl, fun i acc ρ => acc = nD ((List.range i).filter fun h => decide (ga p g h < w)) ∧ ρ = [.va (.fz (ns.map .int)), .ow (.lst (rs.map .int)), .va (.int g), .va (.int p), .va (.int w), .no, .va (.tup (nD bs)), .va (BL g p w bs), .ow (.lst (nD (row p g))), .va (.lst (thD TT)), .va (.lst (rwD RR)), .no, .no, .no, .no, .no, .no, .no, .no, .no, .no, .no, .no], ⟨rfl, rfl⟩, fun i d acc ρ hd hP => ?_, fun acc ρ hP => ?_⟩
    · obtain ⟨hi, rfl⟩ := rng_get hd
      obtain ⟨rfl, rfl⟩ := hP
      have hix : atI (nD (row p g)) (0 + (i : Int)) = some (.int (ga p g i : Nat)) := atI_at (by omega) (nD_get (row_at B.p0 (by omega)))
      have ls := low_step (p := p) (g := g) (w := w) (i := i)
      have hl : ((List.range i).filter fun h => decide (ga p g h < w)).length ≤ i := Nat.le_trans (List.length_filter_le _ _) (by rw [List.length_range]; exact Nat.le_refl i)
      (walk_at "dl"; repeat (simp only [hix]; walk_at "dl"))
      split
      · rename_i z
        have z : ga p g i < w := by omega
        rw [if_pos z] at ls
        walk_at "dl"
        refine ⟨by rw [nD_len, sizeLine_eq]; omega, ?_, rfl⟩
        rw [ls, Int.zero_add]
        unfold nD
        rw [List.map_append]
        rfl
      · rename_i z
        have z : ¬ ga p g i < w := by omega
        rw [if_neg z] at ls
        walk_at "dl"
        exact ⟨by rw [ls], rfl⟩
    · obtain ⟨rfl, rfl⟩ := hP
      rw [rng_len, Int.toNat_natCast]
      exact hN _ rfl
  subst hρ
  refine sSeq_via (fun ρ' => ρ' = [.va (.fz (ns.map .int)), .ow (.lst (rs.map .int)), .va (.int g), .va (.int p), .va (.int w), .no, .va (.tup (nD bs)), .va (BL g p w bs), .ow (.lst (nD (row p g))), .va (.lst (thD TT)), .va (.lst (rwD RR)), .no, .ow (.lst (nD (low p g w))), .va (optN (low p g w).head?), .no, .no, .no, .no, .no, .no, .no, .no, .no]) (fun N hN => ?_) (fun ρ' hρ => ?_)
  · have s1 := shN (low p g w)
    have s0 : shD (.lst []) := rfl
    have e0 := eqN0 (low p g w)
    walk_at "dl"
    refine ⟨s1, s0, ?_⟩
    cases e : low p g w with
    | nil =>
      rw [e] at e0 hN
      rw [e0]
      walk_at "dl"
      exact hN _ rfl
    | cons k r =>
      rw [e] at e0 hN
      have hx0 : ∀ z : List D, atI (.int (k : Nat) :: z) 0 = some (.int (k : Nat)) := fun z => atI_at (n := 0) rfl rfl
      rw [e0]
      (walk_at "dl"; repeat (simp only [hx0]; walk_at "dl"))
      exact hN _ rfl
  subst hρ
  have lnone := low_none (x := g) (w := w) B.p0
  have okT : okA 2 (.tup (thD TT)) := okA_tup (by rw [List.length_map]; omega) fun u hu => by
    obtain ⟨z, _, rfl⟩ := List.mem_map.mp hu
    exact okA_tup (by simp) (okL_cons okA_i (okL_cons okA_i okL_nil))
  have okO : ∀ (n : Nat) (o : Option Nat), okA n (optN o) := fun n o => by
    cases o with
    | none => exact okA_n
    | some k => exact okA_i
  refine sSeq_via (fun ρ' => ρ' = [.va (.fz (ns.map .int)), .ow (.lst (rs.map .int)), .va (.int g), .va (.int p), .va (.int w), .no, .va (.tup (nD bs)), .va (BL g p w bs), .ow (.lst (nD (row p g))), .va (.lst (thD TT)), .va (.lst (rwD RR)), .no, .ow (.lst (nD (low p g w))), .va (optN (low p g w).head?), .no, .no, .no, .no, .no, .no, .no, .no, .no]) (fun N hN => ?_) (fun ρ' hρ => ?_)
  · walk_at "dl"
    refine ⟨_, rfl, bl_ok bs, ?_⟩
    rw [bl_true B g0 p0 (by omega) hbs]
    walk_at "dl"
    refine ⟨true, rfl, ?_⟩
    walk_at "dl"
    refine ⟨g, p, w, bs, rfl, B, ?_⟩
    walk_at "dl"
    refine ⟨g, p, w, bs, rfl, B, fun sb' hp' hs' => ?_⟩
    obtain rfl := uniq sb' hp' hs'
    rw [hTT]
    walk_at "dl"
    refine ⟨_, rfl, okA_lst (by simp) (okL_cons (okO _ _) (okL_cons okT okL_nil)), ?_⟩
    walk_at "dl"
    generalize (low p g w).head? = dn at *
    cases dn with
    | none =>
      have hw0 : w = 0 := lnone.mp rfl
      subst hw0
      (walk_at "dl"; repeat (simp only [optN]; walk_at "dl"))
      exact hN _ rfl
    | some k =>
      have hw0 : w ≠ 0 := fun z => by have := lnone.mpr z; cases this
      have hwd : decide ((w : Int) = 0) = false := decide_eq_false (by omega)
      (walk_at "dl"; repeat (simp only [optN, hwd]; walk_at "dl"))
      exact hN _ rfl
  subst hρ
  have rix : ∀ i, i < (row p g).length → atI (nD (row p g)) (i : Int) = some (.int (ga p g i : Nat)) := fun i hi => atI_at rfl (nD_get (row_at B.p0 hi))
  have okR : ∀ r : List Nat, r.length ≤ 6 → okA 1 (.tup (nD r)) := fun r hr => okA_tup (by rw [nD_len]; omega) fun u hu => by
    obtain ⟨z, _, rfl⟩ := List.mem_map.mp hu
    exact okA_i
  refine sSeq_via (fun ρ' => ∃ (s11 : Sl), ownS (some s11) = none ∧ ρ' = [.va (.fz (ns.map .int)), .ow (.lst (rs.map .int)), .va (.int g), .va (.int p), .va (.int w), .no, .va (.tup (nD bs)), .va (BL g p w bs), .ow (.lst (nD (row p g))), .va (.lst (thD TT)), .va (.lst (rwD RR)), s11, .ow (.lst (nD (low p g w))), .va (optN (low p g w).head?), .no, .no, .no, .no, .no, .no, .no, .no, .no]) (fun N hN => ?_) (fun ρ' hρ => ?_)
  · (walk_at "dl"; repeat (simp only [nD_len]; walk_at "dl"))
    refine ⟨((row p g).length + 2) / 3, rgC0 (by omega) (by omega), by omega, ⟨by decide, by decide, by decide⟩, by simp [rngC]; rw [sizeLine_eq]; omega, ?_⟩
    refine ⟨fun i ρ => ∃ (s11 : Sl), ownS (some s11) = none ∧ ρ = [.va (.fz (ns.map .int)), .ow (.lst (rs.map .int)), .va (.int g), .va (.int p), .va (.int w), .no, .va (.tup (nD bs)), .va (BL g p w bs), .ow (.lst (nD (row p g))), .va (.lst (thD TT)), .va (.lst (rwD RR)), s11, .ow (.lst (nD (low p g w))), .va (optN (low p g w).head?), .no, .no, .no, .no, .no, .no, .no, .no, .no], ⟨_, rfl, rfl⟩, fun i d ρ hd hP => ?_, fun ρ hP => ?_⟩
    rotate_left
    · exact hN _ hP
    obtain ⟨s11, _, rfl⟩ := hP
    obtain ⟨hr, h0, rfl⟩ : ∃ h : Int, 0 ≤ h ∧ d = .int h := by
      rcases List.mem_append.mp (List.mem_of_getElem? hd) with hm | hm
      · simp only [rngC, List.mem_map] at hm
        obtain ⟨k, _, rfl⟩ := hm
        exact ⟨_, by omega, rfl⟩
      · simp only [List.mem_cons, List.not_mem_nil, or_false] at hm
        rcases hm with rfl | rfl
        · exact ⟨_, by omega, rfl⟩
        · exact ⟨_, by decide, rfl⟩
    have hlt : min hr.toNat ((row p g).length - 1) < RR.length := by omega
    have hlt2 : min hr.toNat ((row p g).length - 1) < (row p g).length := by omega
    have hrr := List.getElem?_eq_getElem hlt
    have hrl := (fls _ _ hrr).length_le
    have e : (if hr > ((row p g).length : Int) - 1 then ((row p g).length : Int) - 1 else hr) = ((min hr.toNat ((row p g).length - 1) : Nat) : Int) := by split <;> omega
    have e2 : (if ((row p g).length : Int) - 1 < hr then ((row p g).length : Int) - 1 else hr) = ((min hr.toNat ((row p g).length - 1) : Nat) : Int) := by split <;> omega
    have ix : atI (rwD RR) ((min hr.toNat ((row p g).length - 1) : Nat) : Int) = some (.tup (nD (RR[min hr.toNat ((row p g).length - 1)]))) := atI_at rfl (by rw [List.getElem?_map, hrr]; rfl)
    have ix2 := rix _ hlt2
    walk_at "dl"
    refine ⟨g, p, w, bs, _, rfl, B, h0, ?_⟩
    walk_at "dl"
    refine ⟨g, p, w, bs, _, rfl, B, h0, fun sb' hp' hs' r hr' => ?_⟩
    obtain rfl := uniq sb' hp' hs'
    rw [hRR, hrr] at hr'
    cases hr'
    (walk_at "dl"; repeat (simp only [nD_len, e, e2, ix, ix2]; walk_at "dl"))
    refine ⟨_, rfl, okA_lst (by simp) (okL_cons okA_i (okL_cons (okA_up (okR _ (by omega))) okL_nil)), ?_⟩
    walk_at "dl"
    exact ⟨_, rfl, rfl⟩
  obtain ⟨s11, hs11, rfl⟩ := hρ
  have h100 : nD bs ++ [D.int 100] = nD (bs ++ [100]) := by unfold nD; rw [List.map_append]; rfl
  have hdr : (nD bs).drop 1 = nD (bs.drop 1) := by unfold nD; rw [List.map_drop]
  have hcut : DL.cutD (nD bs) (some 1) none = nD (bs.drop 1) := (cutD_from (xs := nD bs) (k := 1)).trans hdr
  have B1 : Bl g p w (bs.drop 1) := ⟨g1, by omega, p1, hw, by rw [List.length_drop]; omega, fun b hb => (hbs b (List.mem_of_mem_drop hb)).2⟩
  have B2 : Bl g p w (bs ++ [100]) := ⟨g1, by omega, p1, hw, by rw [List.length_append]; show bs.length + 1 ≤ 8; omega, fun b hb => by
    rcases List.mem_append.mp hb with hb | hb
    · exact (hbs b hb).2
    · exact Nat.le_of_eq (List.mem_singleton.mp hb)⟩
  have s0 : shD (.lst []) := rfl
  refine sSeq_via (fun ρ' => ρ' = [.va (.fz (ns.map .int)), .ow (.lst (rs.map .int)), .va (.int g), .va (.int p), .va (.int w), .no, .va (.tup (nD bs)), .va (BL g p w bs), .ow (.lst (nD (row p g))), .va (.lst (thD TT)), .va (.lst (rwD RR)), s11, .ow (.lst (nD (low p g w))), .va (optN (low p g w).head?), .no, .no, .no, .no, .no, .no, .no, .no, .no]) (fun N hN => ?_) (fun ρ' hρ => ?_)
  · (walk_at "dl"; repeat (simp only [nD_len]; walk_at "dl"))
    refine ⟨⟨by decide, by decide, by omega, by omega⟩, ?_⟩
    refine ⟨rfl, fun i acc ρ => acc = [] ∧ ρ = [.va (.fz (ns.map .int)), .ow (.lst (rs.map .int)), .va (.int g), .va (.int p), .va (.int w), .no, .va (.tup (nD bs)), .va (BL g p w bs), .ow (.lst (nD (row p g))), .va (.lst (thD TT)), .va (.lst (rwD RR)), s11, .ow (.lst (nD (low p g w))), .va (optN (low p g w).head?), .no, .no, .no, .no, .no, .no, .no, .no, .no], ⟨rfl, rfl⟩, fun i d acc ρ hd hP => ?_, fun acc ρ hP => ?_⟩
    · obtain ⟨hi, rfl⟩ := rng_get hd
      obtain ⟨rfl, rfl⟩ := hP
      have hi1 : i + 1 < (row p g).length := by omega
      have hx1 : atI (nD (row p g)) (1 + (i : Int)) = some (.int (ga p g (i + 1) : Nat)) := by rw [show 1 + (i : Int) = ((i + 1 : Nat) : Int) by omega]; exact rix _ hi1
      have hx2 : atI (nD (row p g)) (1 + (i : Int) - 1) = some (.int (ga p g i : Nat)) := by rw [show 1 + (i : Int) - 1 = ((i : Nat) : Int) by omega]; exact rix _ (by omega)
      have hlt := (row_get B.p0 g g (Nat.le_refl g) _ _ (row_at B.p0 hi1)).2 (by omega)
      rw [Nat.add_sub_cancel] at hlt
      (walk_at "dl"; repeat (simp only [hx1, hx2]; walk_at "dl"))
      rw [if_neg (by omega)]
      rfl
    · obtain ⟨rfl, rfl⟩ := hP
      walk_at "dl"
      refine ⟨s0, s0, ?_⟩
      rw [eq_nil]
      (walk_at "dl"; repeat (simp only [hcut, unwipe, Option.getD_some]; walk_at "dl"))
      refine ⟨g, p, w, bs.drop 1, rfl, B1, ?_⟩
      cases e : (low p g w).head? with
      | none =>
        rw [e] at hN
        (walk_at "dl"; repeat (simp only [optN]; walk_at "dl"))
        refine ⟨by show 1 ≤ 1000; decide, ?_⟩
        (walk_at "dl"; repeat (simp only [optN]; walk_at "dl"))
        refine ⟨by rw [nD_len, sizeLine_eq]; show bs.length + 1 ≤ _; omega, ?_⟩
        rw [h100]
        walk_at "dl"
        refine ⟨g, p, w, bs ++ [100], rfl, B2, ?_⟩
        rw [e]
        (walk_at "dl"; repeat (simp only [optN]; walk_at "dl"))
        exact hN _ rfl
      | some k =>
        rw [e] at hN
        (walk_at "dl"; repeat (simp only [optN]; walk_at "dl"))
        refine ⟨by rw [nD_len, sizeLine_eq]; show bs.length + 1 ≤ _; omega, ?_⟩
        rw [h100]
        walk_at "dl"
        refine ⟨g, p, w, bs ++ [100], rfl, B2, ?_⟩
        rw [e]
        (walk_at "dl"; repeat (simp only [optN]; walk_at "dl"))
        exact hN _ rfl
  subst hρ
  refine sSeq_via (fun ρ' => ρ' = [.va (.fz (ns.map .int)), .ow (.lst (rs.map .int)), .va (.int g), .va (.int p), .va (.int w), .no, .va (.tup (nD bs)), .va (BL g p w bs), .ow (.lst (nD (row p g))), .va (.lst (thD TT)), .va (.lst (rwD RR)), s11, .ow (.lst (nD (low p g w))), .va (optN (low p g w).head?), .no, .no, .no, .no, .no, .no, .no, .no, .no]) (fun N hN => ?_) (fun ρ' hρ => ?_)
  · (walk_at "dl"; repeat (simp only [nD_len]; walk_at "dl"))
    refine ⟨by omega, by omega, ?_⟩
    refine ⟨by show ((ownS (some s11)).isNone && true) = true; rw [hs11]; rfl, fun i acc ρ => acc = [] ∧ ρ = [.va (.fz (ns.map .int)), .ow (.lst (rs.map .int)), .va (.int g), .va (.int p), .va (.int w), .no, .va (.tup (nD bs)), .va (BL g p w bs), .ow (.lst (nD (row p g))), .va (.lst (thD TT)), .va (.lst (rwD RR)), .no, .ow (.lst (nD (low p g w))), .va (optN (low p g w).head?), .no, .no, .no, .no, .no, .no, .no, .no, .no], ⟨rfl, rfl⟩, fun i d acc ρ hd hP => ?_, fun acc ρ hP => ?_⟩
    · obtain ⟨hi, rfl⟩ := rng_get hd
      obtain ⟨rfl, rfl⟩ := hP
      have hi : i < (row p g).length := by omega
      have hri : i < RR.length := by omega
      have hix : atI (nD (row p g)) (0 + (i : Int)) = some (.int (ga p g i : Nat)) := by rw [Int.zero_add]; exact rix i hi
      have ixr : atI (rwD RR) (0 + (i : Int)) = some (.tup (nD RR[i])) := by rw [Int.zero_add]; exact atI_at rfl (by rw [List.getElem?_map, List.getElem?_eq_getElem hri]; rfl)
      have hen := fle i (ga p g i) RR[i] (row_at B.p0 hi) (List.getElem?_eq_getElem hri)
      cases e : (low p g w).head? with
      | none =>
        have hw0 := lnone.mp e
        have hen := hen (by omega)
        (walk_at "dl"; repeat (simp only [optN, hix, ixr]; walk_at "dl"))
        refine ⟨_, nD_ints _, ?_⟩
        rw [sum_cast]
        walk_at "dl"
        rw [if_neg (by omega)]
        first | rfl | exact ⟨rfl, rfl⟩ | exact ⟨trivial, rfl⟩
      | some k =>
        have lh := (low_head e).2.1 i
        (walk_at "dl"; repeat (simp only [optN]; walk_at "dl"))
        split
        · rename_i z
          have hen := hen (lh (by omega))
          (walk_at "dl"; repeat (simp only [hix, ixr]; walk_at "dl"))
          refine ⟨_, nD_ints _, ?_⟩
          rw [sum_cast]
          walk_at "dl"
          rw [if_neg (by omega)]
          first | rfl | exact ⟨rfl, rfl⟩ | exact ⟨trivial, rfl⟩
        · first | rfl | exact ⟨rfl, rfl⟩ | exact ⟨trivial, rfl⟩
    · obtain ⟨rfl, rfl⟩ := hP
      walk_at "dl"
      refine ⟨s0, s0, ?_⟩
      rw [eq_nil]
      (walk_at "dl"; repeat (simp only [unwipe, Option.getD_some]; walk_at "dl"))
      exact hN _ rfl
  subst hρ
  refine sSeq_via (fun ρ' => ∃ (s14 s15 : Sl), ρ' = [.va (.fz (ns.map .int)), .ow (.lst (rs.map .int)), .va (.int g), .va (.int p), .va (.int w), .no, .va (.tup (nD bs)), .va (BL g p w bs), .ow (.lst (nD (row p g))), .va (.lst (thD TT)), .va (.lst (rwD RR)), s11, .ow (.lst (nD (low p g w))), .va (optN (low p g w).head?), s14, s15, .no, .no, .no, .no, .no, .no, .no]) (fun N hN => ?_) (fun ρ' hρ => ?_)
  · walk_at "dl"
    refine ⟨fun i ρ => ∃ s14 s15 : Sl, ρ = [.va (.fz (ns.map .int)), .ow (.lst (rs.map .int)), .va (.int g), .va (.int p), .va (.int w), .no, .va (.tup (nD bs)), .va (BL g p w bs), .ow (.lst (nD (row p g))), .va (.lst (thD TT)), .va (.lst (rwD RR)), s11, .ow (.lst (nD (low p g w))), .va (optN (low p g w).head?), s14, s15, .no, .no, .no, .no, .no, .no, .no], ⟨_, _, rfl⟩, fun i d ρ hd hP => ?_, fun ρ hP => hN _ hP⟩
    obtain ⟨s14, s15, rfl⟩ := hP
    obtain ⟨g', p', w', rfl, B', hgg, hpp, hww⟩ : ∃ g' p' w', d = BL g' p' w' bs ∧ Bl g' p' w' bs ∧ g ≤ g' ∧ p ≤ p' ∧ w' ≤ w := by
      have hi : i < 3 := (List.getElem?_eq_some_iff.mp hd).1
      rcases (by omega : i = 0 ∨ i = 1 ∨ i = 2) with rfl | rfl | rfl
      · cases hd
        refine ⟨min 1000 (g + 7), p, w, ?_, ⟨by omega, by omega, p1, hw, by omega, B.b0⟩, by omega, by omega, by omega⟩
        simp only [D.tup.injEq, List.cons.injEq, D.int.injEq, and_true, true_and]
        split <;> omega
      · cases hd
        refine ⟨g, min 20 (p + 1), w, ?_, ⟨by omega, by omega, by omega, hw, by omega, B.b0⟩, by omega, by omega, by omega⟩
        simp only [D.tup.injEq, List.cons.injEq, D.int.injEq, and_true, true_and]
        split <;> omega
      · cases hd
        refine ⟨g, p, w - 1, ?_, ⟨by omega, by omega, by omega, by omega, by omega, B.b0⟩, by omega, by omega, by omega⟩
        simp only [D.tup.injEq, List.cons.injEq, D.int.injEq, and_true, true_and]
        split <;> omega
    walk_at "dl"
    refine ⟨g', p', w', bs, rfl, B', ?_⟩
    cases e : (low p g w).head? with
    | none =>
      cases e' : (low p' g' w').head? with
      | none => (walk_at "dl"; repeat (simp only [optN]; walk_at "dl")); exact ⟨_, _, rfl⟩
      | some k' => (walk_at "dl"; repeat (simp only [optN]; walk_at "dl")); exact ⟨_, _, rfl⟩
    | some k =>
      cases e' : (low p' g' w').head? with
      | none => (walk_at "dl"; repeat (simp only [optN]; walk_at "dl")); exact ⟨_, _, rfl⟩
      | some k' =>
        have := low_mono B.p0 hpp hgg hww e e'
        (walk_at "dl"; repeat (simp only [optN]; walk_at "dl"))
        rw [if_neg (by omega)]
        exact ⟨_, _, rfl⟩
  obtain ⟨s14, s15, rfl⟩ := hρ
  refine sSeq_via (fun ρ' => ρ' = [.va (.fz (ns.map .int)), .ow (.lst (rs.map .int)), .va (.int g), .va (.int p), .va (.int w), .no, .va (.tup (nD bs)), .va (BL g p w bs), .ow (.lst (nD (row p g))), .va (.lst (thD TT)), .va (.lst (rwD RR)), s11, .ow (.lst (nD (low p g w))), .va (optN (low p g w).head?), s14, s15, .ow (.lst [.tup []]), .no, .no, .no, .no, .no, .no]) (fun N hN => ?_) (fun ρ' hρ => ?_)
  · walk_at "dl"
    exact hN _ rfl
  subst hρ
  refine sSeq_via (fun ρ' => ∃ (s5 s16 : Sl), (ownS (some s5) = none ∧ (s16 = .ow (.lst (kpD (kp bs bs.length))) ∨ s16 = .va (.lst (kpD (kp bs bs.length))))) ∧ ρ' = [.va (.fz (ns.map .int)), .ow (.lst (rs.map .int)), .va (.int g), .va (.int p), .va (.int w), s5, .va (.tup (nD bs)), .va (BL g p w bs), .ow (.lst (nD (row p g))), .va (.lst (thD TT)), .va (.lst (rwD RR)), s11, .ow (.lst (nD (low p g w))), .va (optN (low p g w).head?), s14, s15, s16, .no, .no, .no, .no, .no, .no]) (fun N hN => ?_) (fun ρ' hρ => ?_)
  · walk_at "dl"
    refine ⟨fun i ρ => ∃ s5 s16 : Sl, ownS (some s5) = none ∧ (s16 = .ow (.lst (kpD (kp bs i))) ∨ s16 = .va (.lst (kpD (kp bs i)))) ∧ ρ = [.va (.fz (ns.map .int)), .ow (.lst (rs.map .int)), .va (.int g), .va (.int p), .va (.int w), s5, .va (.tup (nD bs)), .va (BL g p w bs), .ow (.lst (nD (row p g))), .va (.lst (thD TT)), .va (.lst (rwD RR)), s11, .ow (.lst (nD (low p g w))), .va (optN (low p g w).head?), s14, s15, s16, .no, .no, .no, .no, .no, .no], ⟨_, _, rfl, .inl rfl, rfl⟩, fun i d ρ hd hP => ?_, fun ρ hP => ?_⟩
    rotate_left
    · rw [nD_len] at hP
      obtain ⟨s5, s16, h5, h16, rfl⟩ := hP
      exact hN _ ⟨s5, s16, ⟨h5, h16⟩, rfl⟩
    obtain ⟨s5, s16, h5, h16, rfl⟩ := hP
    obtain ⟨b, hb, rfl⟩ := nD_get' hd
    have hi := (List.getElem?_eq_some_iff.mp hd).1
    rw [nD_len] at hi
    have hkl := kp_len bs i
    have h2i : 2 ^ i ≤ 64 := Nat.le_trans (Nat.pow_le_pow_right (by decide) (show i ≤ 6 by omega)) (by decide)
    have hkm := fun s => kp_mem (bs := bs) (i := i) (by omega) s
    have hkp : kpD (kp bs i) ++ kpD ((kp bs i).map (· ++ [b])) = kpD (kp bs (i + 1)) := by
      have : bs.getD i 0 = b := by rw [List.getD_eq_getElem?_getD, hb]; rfl
      rw [kp, this]
      unfold kpD
      rw [List.map_append]
    generalize kp bs i = KI at *
    rcases h16 with rfl | rfl
    · walk_at "dl"
      refine ⟨rfl, fun j acc ρ => acc = kpD ((KI.take j).map (· ++ [b])) ∧ ρ = [.va (.fz (ns.map .int)), .ow (.lst (rs.map .int)), .va (.int g), .va (.int p), .va (.int w), .va (.int b), .va (.tup (nD bs)), .va (BL g p w bs), .ow (.lst (nD (row p g))), .va (.lst (thD TT)), .va (.lst (rwD RR)), s11, .ow (.lst (nD (low p g w))), .va (optN (low p g w).head?), s14, s15, .va (.lst (kpD KI)), .no, .no, .no, .no, .no, .no], ⟨rfl, rfl⟩, fun j d acc ρ hd hP => ?_, fun acc ρ hP => ?_⟩
      · obtain ⟨rfl, rfl⟩ := hP
        obtain ⟨s, hs1, rfl⟩ := kpD_get hd
        have hjl := (List.getElem?_eq_some_iff.mp hs1).1
        have hsl := ((hkm s).mp (List.mem_of_getElem? hs1)).length_le
        rw [List.length_take] at hsl
        have tk : KI.take (j + 1) = KI.take j ++ [s] := by rw [List.take_add_one, hs1]; rfl
        have a1 : (kpD ((KI.take j).map (· ++ [b]))).length < sizeLine := by rw [List.length_map, List.length_map, List.length_take, sizeLine_eq]; omega
        have a2 : (nD s).length + 1 ≤ sizeLine := by rw [nD_len, sizeLine_eq]; omega
        have a3 : kpD ((KI.take j).map (· ++ [b])) ++ [D.tup (nD s ++ [D.int (b : Nat)])] = kpD ((KI.take (j + 1)).map (· ++ [b])) := by
          rw [tk, List.map_append]
          unfold kpD
          rw [List.map_append]
          show _ = _ ++ [D.tup (nD (s ++ [b]))]
          unfold nD
          rw [List.map_append]
          rfl
        walk_at "dl"
        walk_at "dl"
        refine ⟨a2, a1, a3, rfl⟩
      · obtain ⟨rfl, rfl⟩ := hP
        rw [List.length_map, List.take_length]
        have a1 : (kpD KI).length + (kpD (KI.map (· ++ [b]))).length ≤ sizeLine := by rw [List.length_map, List.length_map, List.length_map, sizeLine_eq]; omega
        (walk_at "dl"; repeat (simp only [unwipe, Option.getD_some]; walk_at "dl"))
        refine ⟨a1, _, _, rfl, .inl (by rw [← hkp]), rfl⟩
    · walk_at "dl"
      refine ⟨rfl, fun j acc ρ => acc = kpD ((KI.take j).map (· ++ [b])) ∧ ρ = [.va (.fz (ns.map .int)), .ow (.lst (rs.map .int)), .va (.int g), .va (.int p), .va (.int w), .va (.int b), .va (.tup (nD bs)), .va (BL g p w bs), .ow (.lst (nD (row p g))), .va (.lst (thD TT)), .va (.lst (rwD RR)), s11, .ow (.lst (nD (low p g w))), .va (optN (low p g w).head?), s14, s15, .va (.lst (kpD KI)), .no, .no, .no, .no, .no, .no], ⟨rfl, rfl⟩, fun j d acc ρ hd hP => ?_, fun acc ρ hP => ?_⟩
      · obtain ⟨rfl, rfl⟩ := hP
        obtain ⟨s, hs1, rfl⟩ := kpD_get hd
        have hjl := (List.getElem?_eq_some_iff.mp hs1).1
        have hsl := ((hkm s).mp (List.mem_of_getElem? hs1)).length_le
        rw [List.length_take] at hsl
        have tk : KI.take (j + 1) = KI.take j ++ [s] := by rw [List.take_add_one, hs1]; rfl
        have a1 : (kpD ((KI.take j).map (· ++ [b]))).length < sizeLine := by rw [List.length_map, List.length_map, List.length_take, sizeLine_eq]; omega
        have a2 : (nD s).length + 1 ≤ sizeLine := by rw [nD_len, sizeLine_eq]; omega
        have a3 : kpD ((KI.take j).map (· ++ [b])) ++ [D.tup (nD s ++ [D.int (b : Nat)])] = kpD ((KI.take (j + 1)).map (· ++ [b])) := by
          rw [tk, List.map_append]
          unfold kpD
          rw [List.map_append]
          show _ = _ ++ [D.tup (nD (s ++ [b]))]
          unfold nD
          rw [List.map_append]
          rfl
        walk_at "dl"
        walk_at "dl"
        refine ⟨a2, a1, a3, rfl⟩
      · obtain ⟨rfl, rfl⟩ := hP
        rw [List.length_map, List.take_length]
        have a1 : (kpD KI).length + (kpD (KI.map (· ++ [b]))).length ≤ sizeLine := by rw [List.length_map, List.length_map, List.length_map, sizeLine_eq]; omega
        (walk_at "dl"; repeat (simp only [unwipe, Option.getD_some]; walk_at "dl"))
        refine ⟨a1, _, _, rfl, .inl (by rw [← hkp]), rfl⟩
  obtain ⟨s5, s16, ⟨h5, h16⟩, rfl⟩ := hρ
  refine sSeq_via (fun ρ' => ρ' = [.va (.fz (ns.map .int)), .ow (.lst (rs.map .int)), .va (.int g), .va (.int p), .va (.int w), s5, .va (.tup (nD bs)), .va (BL g p w bs), .ow (.lst (nD (row p g))), .va (.lst (thD TT)), .va (.lst (rwD RR)), s11, .ow (.lst (nD (low p g w))), .va (optN (low p g w).head?), s14, s15, s16, .va (lastD g p w (low p g w).head?), .no, .no, .no, .no, .no]) (fun N hN => ?_) (fun ρ' hρ => ?_)
  · cases e : (low p g w).head? with
    | none =>
      rw [e] at hN
      (walk_at "dl"; repeat (simp only [optN]; walk_at "dl"))
      exact hN _ rfl
    | some h =>
      rw [e] at hN
      obtain ⟨_, lh2, lh3⟩ := low_head e
      cases h with
      | zero =>
        (walk_at "dl"; repeat (simp only [optN]; walk_at "dl"))
        first | exact hN _ rfl | (rw [if_neg (by omega)]; walk_at "dl"; exact hN _ rfl)
      | succ k =>
        have hx : atI (nD (row p g)) (((k + 1 : Nat) : Int) - 1) = some (.int (ga p g k : Nat)) := by rw [show ((k + 1 : Nat) : Int) - 1 = (k : Int) by omega]; exact rix k (by omega)
        have lh2 := lh2 k (by omega)
        (walk_at "dl"; repeat (simp only [optN]; walk_at "dl"))
        rw [if_pos (by omega)]
        (walk_at "dl"; repeat (simp only [hx]; walk_at "dl"))
        rw [show ((ga p g k : Nat) : Int) - (w : Int) = ((ga p g k - w : Nat) : Int) by omega]
        exact hN _ rfl
  subst hρ
  have hmem := fun s => kp_all (bs := bs) (s := s)
  have hkl : (kp bs bs.length).length ≤ 64 := by rw [kp_len]; exact Nat.le_trans (Nat.pow_le_pow_right (by decide) hbl) (by decide)
  generalize kp bs bs.length = KK at *
  have hlast : ((low p g w).head? = some 0 ∧ lastD g p w (low p g w).head? = .non) ∨ ∃ d S, (low p g w).head? = d ∧ d ≠ some 0 ∧ lastD g p w (low p g w).head? = .int (S : Nat) ∧ S = spare g p w d := by
    cases e : (low p g w).head? with
    | none => exact .inr ⟨none, 0, rfl, by simp, rfl, rfl⟩
    | some h =>
      cases h with
      | zero => exact .inl ⟨rfl, rfl⟩
      | succ k => exact .inr ⟨some (k + 1), _, rfl, by simp, rfl, rfl⟩
  generalize hLD : lastD g p w (low p g w).head? = LD at *
  refine sSeq_via (fun ρ' => ∃ (f : Nat) (s16 : Sl), (f ≤ bs.length ∧ ((low p g w).head? = some 0 → f = 0) ∧ ∀ d, (low p g w).head? = d → d ≠ some 0 → ∀ k, k ≤ sb.length → (sb.take k).sum ≤ spare g p w d → (k = sb.length ∨ spare g p w d < (sb.take (k + 1)).sum) → sb.length - k = f) ∧ ρ' = [.va (.fz (ns.map .int)), .ow (.lst (rs.map .int)), .va (.int g), .va (.int p), .va (.int w), s5, .va (.tup (nD bs)), .va (BL g p w bs), .ow (.lst (nD (row p g))), .va (.lst (thD TT)), .va (.lst (rwD RR)), s11, .ow (.lst (nD (low p g w))), .va (optN (low p g w).head?), s14, s15, s16, .va LD, .va (.int (f : Nat)), .no, .no, .no, .no]) (fun N hN => ?_) (fun ρ' hρ => ?_)
  · rcases hlast with ⟨h1, rfl⟩ | ⟨d, S, hd1, hd0, rfl, hS⟩
    · walk_at "dl"
      exact hN _ ⟨0, _, ⟨Nat.zero_le _, fun _ => rfl, fun d hd hd0 => absurd (hd.symm.trans h1) hd0⟩, rfl⟩
    · rcases h16 with rfl | rfl
      · (walk_at "dl"; repeat (simp only [nD_len]; walk_at "dl"))
        refine ⟨rfl, fun j acc ρ => acc = nD (((KK.take j).filter fun s => decide (s.sum ≤ S)).map List.length) ∧ ρ = [.va (.fz (ns.map .int)), .ow (.lst (rs.map .int)), .va (.int g), .va (.int p), .va (.int w), s5, .va (.tup (nD bs)), .va (BL g p w bs), .ow (.lst (nD (row p g))), .va (.lst (thD TT)), .va (.lst (rwD RR)), s11, .ow (.lst (nD (low p g w))), .va (optN (low p g w).head?), s14, s15, .va (.lst (kpD KK)), .va (.int (S : Nat)), .no, .no, .no, .no, .no], ⟨rfl, rfl⟩, fun j d acc ρ hd hP => ?_, fun acc ρ hP => ?_⟩
        · obtain ⟨rfl, rfl⟩ := hP
          obtain ⟨s, hs1, rfl⟩ := kpD_get hd
          have hjl := (List.getElem?_eq_some_iff.mp hs1).1
          have tk : KK.take (j + 1) = KK.take j ++ [s] := by rw [List.take_add_one, hs1]; rfl
          have fl : ((KK.take j).filter fun s => decide (s.sum ≤ S)).length ≤ 64 := Nat.le_trans (List.length_filter_le _ _) (by rw [List.length_take]; omega)
          walk_at "dl"
          refine ⟨_, nD_ints s, ?_⟩
          rw [sum_cast]
          walk_at "dl"
          split
          · rename_i z
            have z : s.sum ≤ S := by omega
            (walk_at "dl"; repeat (simp only [nD_len]; walk_at "dl"))
            refine ⟨by rw [List.length_map, sizeLine_eq]; omega, ?_, rfl⟩
            rw [tk, List.filter_append, List.filter_cons, decide_eq_true z, if_pos rfl, List.map_append]
            unfold nD
            rw [List.map_append]
            rfl
          · rename_i z
            have z : ¬ s.sum ≤ S := by omega
            walk_at "dl"
            refine ⟨?_, rfl⟩
            rw [tk, List.filter_append, List.filter_cons, decide_eq_false z, if_neg (by simp), List.filter_nil, List.append_nil]
        · obtain ⟨rfl, rfl⟩ := hP
          rw [List.length_map, List.take_length]
          (walk_at "dl"; repeat (simp only [unwipe, Option.getD_some]; walk_at "dl"))
          refine ⟨_, nD_ints _, ?_, fun m hm hmax => ?_⟩
          · rw [List.length_map, List.length_map]
            exact List.length_pos_of_mem (List.mem_filter.mpr ⟨(hmem []).mpr (List.nil_sublist bs), by simp⟩)
          · obtain ⟨n, hn, rfl⟩ := List.mem_map.mp hm
            obtain ⟨t, ht, rfl⟩ := List.mem_map.mp hn
            obtain ⟨t1, t2⟩ := List.mem_filter.mp ht
            have t1 := (hmem t).mp t1
            have t2 := of_decide_eq_true t2
            have tl := t1.length_le
            (walk_at "dl"; repeat (simp only [nD_len]; walk_at "dl"))
            refine hN _ ⟨bs.length - t.length, _, ⟨by omega, fun z => absurd (hd1.symm.trans z) hd0, fun d' hd' hd0' k k1 k2 k3 => ?_⟩, by rw [show (bs.length : Int) - (t.length : Int) = ((bs.length - t.length : Nat) : Int) by omega]⟩
            obtain rfl := hd1.symm.trans hd'
            subst hS
            have g1 := greedy_most hp hs k3 t1 t2
            obtain ⟨u, u1, u2, u3⟩ := greedy_some hp k1
            have g2 := hmax (u.length : Int) (List.mem_map.mpr ⟨_, List.mem_map.mpr ⟨u, List.mem_filter.mpr ⟨(hmem u).mpr u1, decide_eq_true (by omega)⟩, rfl⟩, rfl⟩)
            omega
      · (walk_at "dl"; repeat (simp only [nD_len]; walk_at "dl"))
        refine ⟨rfl, fun j acc ρ => acc = nD (((KK.take j).filter fun s => decide (s.sum ≤ S)).map List.length) ∧ ρ = [.va (.fz (ns.map .int)), .ow (.lst (rs.map .int)), .va (.int g), .va (.int p), .va (.int w), s5, .va (.tup (nD bs)), .va (BL g p w bs), .ow (.lst (nD (row p g))), .va (.lst (thD TT)), .va (.lst (rwD RR)), s11, .ow (.lst (nD (low p g w))), .va (optN (low p g w).head?), s14, s15, .va (.lst (kpD KK)), .va (.int (S : Nat)), .no, .no, .no, .no, .no], ⟨rfl, rfl⟩, fun j d acc ρ hd hP => ?_, fun acc ρ hP => ?_⟩
        · obtain ⟨rfl, rfl⟩ := hP
          obtain ⟨s, hs1, rfl⟩ := kpD_get hd
          have hjl := (List.getElem?_eq_some_iff.mp hs1).1
          have tk : KK.take (j + 1) = KK.take j ++ [s] := by rw [List.take_add_one, hs1]; rfl
          have fl : ((KK.take j).filter fun s => decide (s.sum ≤ S)).length ≤ 64 := Nat.le_trans (List.length_filter_le _ _) (by rw [List.length_take]; omega)
          walk_at "dl"
          refine ⟨_, nD_ints s, ?_⟩
          rw [sum_cast]
          walk_at "dl"
          split
          · rename_i z
            have z : s.sum ≤ S := by omega
            (walk_at "dl"; repeat (simp only [nD_len]; walk_at "dl"))
            refine ⟨by rw [List.length_map, sizeLine_eq]; omega, ?_, rfl⟩
            rw [tk, List.filter_append, List.filter_cons, decide_eq_true z, if_pos rfl, List.map_append]
            unfold nD
            rw [List.map_append]
            rfl
          · rename_i z
            have z : ¬ s.sum ≤ S := by omega
            walk_at "dl"
            refine ⟨?_, rfl⟩
            rw [tk, List.filter_append, List.filter_cons, decide_eq_false z, if_neg (by simp), List.filter_nil, List.append_nil]
        · obtain ⟨rfl, rfl⟩ := hP
          rw [List.length_map, List.take_length]
          (walk_at "dl"; repeat (simp only [unwipe, Option.getD_some]; walk_at "dl"))
          refine ⟨_, nD_ints _, ?_, fun m hm hmax => ?_⟩
          · rw [List.length_map, List.length_map]
            exact List.length_pos_of_mem (List.mem_filter.mpr ⟨(hmem []).mpr (List.nil_sublist bs), by simp⟩)
          · obtain ⟨n, hn, rfl⟩ := List.mem_map.mp hm
            obtain ⟨t, ht, rfl⟩ := List.mem_map.mp hn
            obtain ⟨t1, t2⟩ := List.mem_filter.mp ht
            have t1 := (hmem t).mp t1
            have t2 := of_decide_eq_true t2
            have tl := t1.length_le
            (walk_at "dl"; repeat (simp only [nD_len]; walk_at "dl"))
            refine hN _ ⟨bs.length - t.length, _, ⟨by omega, fun z => absurd (hd1.symm.trans z) hd0, fun d' hd' hd0' k k1 k2 k3 => ?_⟩, by rw [show (bs.length : Int) - (t.length : Int) = ((bs.length - t.length : Nat) : Int) by omega]⟩
            obtain rfl := hd1.symm.trans hd'
            subst hS
            have g1 := greedy_most hp hs k3 t1 t2
            obtain ⟨u, u1, u2, u3⟩ := greedy_some hp k1
            have g2 := hmax (u.length : Int) (List.mem_map.mpr ⟨_, List.mem_map.mpr ⟨u, List.mem_filter.mpr ⟨(hmem u).mpr u1, decide_eq_true (by omega)⟩, rfl⟩, rfl⟩)
            omega
  obtain ⟨f, s16, ⟨f1, f2, f3⟩, rfl⟩ := hρ
  refine sSeq_via (fun ρ' => ρ' = [.va (.fz (ns.map .int)), .ow (.lst (rs.map .int)), .va (.int g), .va (.int p), .va (.int w), s5, .va (.tup (nD bs)), .va (BL g p w bs), .ow (.lst (nD (row p g))), .va (.lst (thD TT)), .va (.lst (rwD RR)), s11, .ow (.lst (nD (low p g w))), .va (optN (low p g w).head?), s14, s15, s16, .va LD, .va (.int (f : Nat)), .no, .no, .no, .no]) (fun N hN => ?_) (fun ρ' hρ => ?_)
  · walk_at "dl"
    refine ⟨g, p, w, bs, rfl, B, fun e => ?_, fun d hd hd0 sb' k hp' hs' k1 k2 k3 => ?_⟩
    · rw [← f2 e]
      walk_at "dl"
      refine ⟨_, rfl, okA_i, ?_⟩
      (walk_at "dl"; repeat (simp only [nD_len]; walk_at "dl"))
      rw [if_neg (by omega)]
      exact hN _ rfl
    · obtain rfl := uniq sb' hp' hs'
      rw [f3 d hd hd0 k k1 k2 k3]
      walk_at "dl"
      refine ⟨_, rfl, okA_i, ?_⟩
      (walk_at "dl"; repeat (simp only [nD_len]; walk_at "dl"))
      rw [if_neg (by omega)]
      exact hN _ rfl
  subst hρ
  refine sSeq_via (fun ρ' => ∃ (L : List D), (L.length ≤ 10 ∧ ∀ d ∈ L, blOk d = true ∧ blB d = false) ∧ ρ' = [.va (.fz (ns.map .int)), .ow (.lst (rs.map .int)), .va (.int g), .va (.int p), .va (.int w), s5, .va (.tup (nD bs)), .va (BL g p w bs), .ow (.lst (nD (row p g))), .va (.lst (thD TT)), .va (.lst (rwD RR)), s11, .ow (.lst (nD (low p g w))), .va (optN (low p g w).head?), s14, s15, s16, .va LD, .va (.int (f : Nat)), .ow (.lst L), .no, .no, .no]) (fun N hN => ?_) (fun ρ' hρ => ?_)
  · have hc3 : DL.cutD [D.int (g : Nat), .int (p : Nat), .int (w : Nat), .tup (nD bs)] none (some 3) = [D.int (g : Nat), .int (p : Nat), .int (w : Nat)] := cutD_to (k := 3)
    (walk_at "dl"; repeat (simp only [hc3]; walk_at "dl"))
    (walk_at "dl"; repeat (simp only [BL]; walk_at "dl"))
    refine ⟨by show 4 + 1 ≤ sizeLine; rw [sizeLine_eq]; decide, by show 10 ≤ 1000; decide, ?_⟩
    walk_at "dl"
    refine hN _ ⟨_, ⟨?_, ?_⟩, rfl⟩
    · show 10 ≤ 10
      decide
    · exact oc (o1 rfl rfl) (oc (o1 rfl rfl) (oc (o1 rfl rfl) (oc (o1 rfl rfl) (oc (o1 (nums_ok bs) rfl) (oc (o1 (nums_ok bs) rfl) (oc (o1 (nums_ok bs) (bf2 rfl)) (oc (o1 (nums_ok bs) (bf2 rfl)) (oc (o1 (nums_ok bs) (bf3 rfl)) (oc (o1 (nums_ok bs) (bf3 rfl)) on)))))))))
  obtain ⟨L, ⟨hL, hodd⟩, rfl⟩ := hρ
  refine sSeq_via (fun ρ' => ∃ (L : List D), (∀ d ∈ L, blOk d = true ∧ blB d = false) ∧ ρ' = [.va (.fz (ns.map .int)), .ow (.lst (rs.map .int)), .va (.int g), .va (.int p), .va (.int w), s5, .va (.tup (nD bs)), .va (BL g p w bs), .ow (.lst (nD (row p g))), .va (.lst (thD TT)), .va (.lst (rwD RR)), s11, .ow (.lst (nD (low p g w))), .va (optN (low p g w).head?), s14, s15, s16, .va LD, .va (.int (f : Nat)), .ow (.lst L), .no, .no, .no]) (fun N hN => ?_) (fun ρ' hρ => ?_)
  · (walk_at "dl"; repeat (simp only [fMul_t]; walk_at "dl"))
    refine ⟨by decide, by decide, by decide, by rw [sizeLine_eq]; omega, ?_⟩
    walk_at "dl"
    refine hN _ ⟨_, fun d hd => ?_, rfl⟩
    rcases List.mem_append.mp hd with hd | hd
    · exact hodd d hd
    · simp only [List.mem_cons, List.not_mem_nil, or_false] at hd
      rcases hd with rfl | rfl | rfl | rfl | rfl | rfl | rfl | rfl
      · exact o1 rfl (bf4 rfl)
      · exact o1 rfl (bf4 rfl)
      · exact o1 rfl (bf4 rfl)
      · exact o1 rfl (bf4 rfl)
      · exact o1 rfl (bf4 rfl)
      · exact o1 (nums_ok bs) rfl
      · exact o1 (nums_ok bs) (bf2 rfl)
      · exact o1 rfl (bf4 rfl)
  obtain ⟨L, hodd, rfl⟩ := hρ
  walk_at "dl"
  refine ⟨rfl, fun j acc ρ => acc = [] ∧ ρ = [.va (.fz (ns.map .int)), .ow (.lst (rs.map .int)), .va (.int g), .va (.int p), .va (.int w), s5, .va (.tup (nD bs)), .va (BL g p w bs), .ow (.lst (nD (row p g))), .va (.lst (thD TT)), .va (.lst (rwD RR)), s11, .ow (.lst (nD (low p g w))), .va (optN (low p g w).head?), s14, s15, s16, .va LD, .va (.int (f : Nat)), .va (.lst L), .no, .no, .no], ⟨rfl, rfl⟩, fun j d acc ρ hd hP => ?_, fun acc ρ hP => ?_⟩
  · obtain ⟨rfl, rfl⟩ := hP
    obtain ⟨o1, o2⟩ := hodd d (List.mem_of_getElem? hd)
    walk_at "dl"
    refine ⟨_, rfl, o1, ?_⟩
    rw [o2]
    (walk_at "dl"; repeat (simp only [fIs_b]; walk_at "dl"))
    first | rfl | exact ⟨rfl, rfl⟩ | exact ⟨trivial, rfl⟩
  · obtain ⟨rfl, rfl⟩ := hP
    walk_at "dl"
    refine ⟨s0, s0, ?_⟩
    rw [eq_nil]
    exact h
end K88

set_option Elab.async false
set_option linter.all false
set_option maxRecDepth 100000
set_option maxHeartbeats 4000000
namespace K88
open PySem PySem.Spec PyProof.Rows L2 DL LW
theorem chain {P : Program} {w : World} {K : PySem.W.Frag} {mg : Str → Option Value} {base : Heap} {T : Addr → Prop} (Z : Top K mg)
    {f_is_number : Addr} {fd_is_number : FuncData} (F_is_number : Fun K "is_number" "is_number" s_is_number f_is_number fd_is_number) (m_is_number : mg "is_number" = some (.ref f_is_number))
    {f_is_balloon : Addr} {fd_is_balloon : FuncData} (F_is_balloon : Fun K "is_balloon" "is_balloon" s_is_balloon f_is_balloon fd_is_balloon) (m_is_balloon : mg "is_balloon" = some (.ref f_is_balloon))
    {f_gas_row : Addr} {fd_gas_row : FuncData} (F_gas_row : Fun K "gas_row" "gas_row" s_gas_row f_gas_row fd_gas_row) (m_gas_row : mg "gas_row" = some (.ref f_gas_row))
    {f_gas_at : Addr} {fd_gas_at : FuncData} (F_gas_at : Fun K "gas_at" "gas_at" s_gas_at f_gas_at fd_gas_at) (m_gas_at : mg "gas_at" = some (.ref f_gas_at))
    {f_hours_of : Addr} {fd_hours_of : FuncData} (F_hours_of : Fun K "hours_of" "hours_of" s_hours_of f_hours_of fd_hours_of) (m_hours_of : mg "hours_of" = some (.ref f_hours_of))
    {f_flight_of : Addr} {fd_flight_of : FuncData} (F_flight_of : Fun K "flight_of" "flight_of" s_flight_of f_flight_of fd_flight_of) (m_flight_of : mg "flight_of" = some (.ref f_flight_of))
    {f_thrown_by : Addr} {fd_thrown_by : FuncData} (F_thrown_by : Fun K "thrown_by" "thrown_by" s_thrown_by f_thrown_by fd_thrown_by) (m_thrown_by : mg "thrown_by" = some (.ref f_thrown_by))
    {f_bags_at : Addr} {fd_bags_at : FuncData} (F_bags_at : Fun K "bags_at" "bags_at" s_bags_at f_bags_at fd_bags_at) (m_bags_at : mg "bags_at" = some (.ref f_bags_at))
    {f_fewest_throws : Addr} {fd_fewest_throws : FuncData} (F_fewest_throws : Fun K "fewest_throws" "fewest_throws" s_fewest_throws f_fewest_throws fd_fewest_throws) (m_fewest_throws : mg "fewest_throws" = some (.ref f_fewest_throws))
    {f__law_draws : Addr} {fd__law_draws : FuncData} (F__law_draws : Fun K "_law_draws" "_law_draws" s__law_draws f__law_draws fd__law_draws) (m__law_draws : mg "_law_draws" = some (.ref f__law_draws))
    {f__law_take : Addr} {fd__law_take : FuncData} (F__law_take : Fun K "_law_take" "_law_take" s__law_take f__law_take fd__law_take) (m__law_take : mg "_law_take" = some (.ref f__law_take))
    {f__law_says : Addr} {fd__law_says : FuncData} (F__law_says : Fun K "_law_says" "_law_says" s__law_says f__law_says fd__law_says) (m__law_says : mg "_law_says" = some (.ref f__law_says))
    {f__law_alike : Addr} {fd__law_alike : FuncData} (F__law_alike : Fun K "_law_alike" "_law_alike" s__law_alike f__law_alike fd__law_alike) (m__law_alike : mg "_law_alike" = some (.ref f__law_alike))
    {f__law_gas : Addr} {fd__law_gas : FuncData} (F__law_gas : Fun K "_law_gas" "_law_gas" s__law_gas f__law_gas fd__law_gas) (m__law_gas : mg "_law_gas" = some (.ref f__law_gas))
    {f__law_fly : Addr} {fd__law_fly : FuncData} (F__law_fly : Fun K "_law_fly" "_law_fly" s__law_fly f__law_fly fd__law_fly) (m__law_fly : mg "_law_fly" = some (.ref f__law_fly))
    {f_law : Addr} {fd_law : FuncData} (F_law : Fun K "law" "law" s_law f_law fd_law) (m_law : mg "law" = some (.ref f_law))
    {cG_is_balloon PG_is_balloon : Addr} (hc_is_balloon : fd_is_balloon.code = .ref cG_is_balloon) (TB_is_balloon : GTab T base mg cG_is_balloon PG_is_balloon)
    : FnOk P w K mg base (L2N.CX P w) 5 f_law fd_law ["script"] (liftSp K T sp_law) := by
  have b_is_number : Binds K fd_is_number p_is_number [] := F_is_number.binds (ps := p_is_number) fun _ _ _ _ _ _ us hl => match us, hl with | [_, _, _], _ => rfl
  have b_is_balloon : Binds K fd_is_balloon p_is_balloon [] := F_is_balloon.binds (ps := p_is_balloon) fun _ _ _ _ _ _ us hl => match us, hl with | [_], _ => rfl
  have b_gas_row : Binds K fd_gas_row p_gas_row [] := F_gas_row.binds (ps := p_gas_row) fun _ _ _ _ _ _ us hl => match us, hl with | [_], _ => rfl
  have b_gas_at : Binds K fd_gas_at p_gas_at [] := F_gas_at.binds (ps := p_gas_at) fun _ _ _ _ _ _ us hl => match us, hl with | [_, _], _ => rfl
  have b_hours_of : Binds K fd_hours_of p_hours_of [] := F_hours_of.binds (ps := p_hours_of) fun _ _ _ _ _ _ us hl => match us, hl with | [_], _ => rfl
  have b_flight_of : Binds K fd_flight_of p_flight_of [] := F_flight_of.binds (ps := p_flight_of) fun _ _ _ _ _ _ us hl => match us, hl with | [_], _ => rfl
  have b_thrown_by : Binds K fd_thrown_by p_thrown_by [] := F_thrown_by.binds (ps := p_thrown_by) fun _ _ _ _ _ _ us hl => match us, hl with | [_], _ => rfl
  have b_bags_at : Binds K fd_bags_at p_bags_at [] := F_bags_at.binds (ps := p_bags_at) fun _ _ _ _ _ _ us hl => match us, hl with | [_, _], _ => rfl
  have b_fewest_throws : Binds K fd_fewest_throws p_fewest_throws [] := F_fewest_throws.binds (ps := p_fewest_throws) fun _ _ _ _ _ _ us hl => match us, hl with | [_], _ => rfl
  have b__law_draws : Binds K fd__law_draws p__law_draws [] := F__law_draws.binds (ps := p__law_draws) fun _ _ _ _ _ _ us hl => match us, hl with | [_], _ => rfl
  have b__law_take : Binds K fd__law_take p__law_take [] := F__law_take.binds (ps := p__law_take) fun _ _ _ _ _ _ us hl => match us, hl with | [_, _], _ => rfl
  have b__law_says : Binds K fd__law_says p__law_says [] := F__law_says.binds (ps := p__law_says) fun _ _ _ _ _ _ us hl => match us, hl with | [_, _], _ => rfl
  have b__law_alike : Binds K fd__law_alike p__law_alike [] := F__law_alike.binds (ps := p__law_alike) fun _ _ _ _ _ _ us hl => match us, hl with | [_, _], _ => rfl
  have b__law_gas : Binds K fd__law_gas p__law_gas [] := F__law_gas.binds (ps := p__law_gas) fun _ _ _ _ _ _ us hl => match us, hl with | [_], _ => rfl
  have b__law_fly : Binds K fd__law_fly p__law_fly [] := F__law_fly.binds (ps := p__law_fly) fun _ _ _ _ _ _ us hl => match us, hl with | [_], _ => rfl
  have b_law : Binds K fd_law p_law [] := F_law.binds (ps := p_law) fun _ _ _ _ _ _ us hl => match us, hl with | [_], _ => rfl
  have nd : NumDef K mg f_is_number := ⟨⟨s_is_number, fd_is_number, F_is_number, ⟨_, _, _, _, _, _, _, _, _, _, _, _, _, _, _, rfl⟩, sc_is_number, by decide +kernel, ⟨rfl, rfl, rfl⟩, ⟨rfl, rfl, rfl⟩, b_is_number⟩, m_is_number, F_is_number.kp, Z.b_isinstance, Z.b_int, Z.b_bool⟩
  have c_is_number := ok_is_number (k := 0) (base := base) (P := P) (w := w) (T := T) Z F_is_number m_is_number b_is_number (sp := sp_is_number) (fun ds q x h => by obtain ⟨_, _, _, rfl, _⟩ := h; rfl) (is_number_ok)
  have c_is_balloon := ok_is_balloon (k := 1) (base := base) (P := P) (w := w) (T := T) Z (c_is_number.mono (by decide)) TB_is_balloon nd hc_is_balloon F_is_balloon m_is_balloon b_is_balloon (sp := sp_is_bl) (fun ds q x h => by obtain ⟨_, rfl, _⟩ := h; rfl) (is_bl_ok)
  have c_gas_row := ok_gas_row (k := 0) (base := base) (P := P) (w := w) (T := T) Z F_gas_row m_gas_row b_gas_row (sp := sp_row) (fun ds q x h => by obtain ⟨_, _, _, _, rfl, _⟩ := h; rfl) (gas_row_ok)
  have c_gas_at := ok_gas_at (k := 1) (base := base) (P := P) (w := w) (T := T) Z (c_gas_row.mono (by decide)) F_gas_at m_gas_at b_gas_at (sp := sp_at) (fun ds q x h => by obtain ⟨_, _, _, _, _, rfl, _⟩ := h; rfl) (gas_at_ok)
  have c_hours_of := ok_hours_of (k := 1) (base := base) (P := P) (w := w) (T := T) Z (c_gas_row.mono (by decide)) F_hours_of m_hours_of b_hours_of (sp := sp_hours) (fun ds q x h => by obtain ⟨_, _, _, _, rfl, _⟩ := h; rfl) (hours_ok)
  have c_flight_of := ok_flight_of (k := 1) (base := base) (P := P) (w := w) (T := T) Z (c_gas_row.mono (by decide)) F_flight_of m_flight_of b_flight_of (sp := sp_flight) (fun ds q x h => by obtain ⟨_, _, _, _, rfl, _⟩ := h; rfl) (flight_ok)
  have c_thrown_by := ok_thrown_by (k := 2) (base := base) (P := P) (w := w) (T := T) Z (c_flight_of.mono (by decide)) F_thrown_by m_thrown_by b_thrown_by (sp := sp_thrown) (fun ds q x h => by obtain ⟨_, _, _, _, rfl, _⟩ := h; rfl) (thrown_ok)
  have c_bags_at := ok_bags_at (k := 2) (base := base) (P := P) (w := w) (T := T) Z (c_flight_of.mono (by decide)) F_bags_at m_bags_at b_bags_at (sp := sp_bags) (fun ds q x h => by obtain ⟨_, _, _, _, _, rfl, _⟩ := h; rfl) (bags_ok)
  have c_fewest_throws := ok_fewest_throws (k := 2) (base := base) (P := P) (w := w) (T := T) Z (c_hours_of.mono (by decide)) (c_gas_at.mono (by decide)) F_fewest_throws m_fewest_throws b_fewest_throws (sp := sp_few) (fun ds q x h => by obtain ⟨_, _, _, _, rfl, _⟩ := h; rfl) (few_loop)
  have c__law_draws := ok__law_draws (k := 0) (base := base) (P := P) (w := w) (T := T) Z F__law_draws m__law_draws b__law_draws (sp := sp_draws) (fun ds q x h => by obtain ⟨_, rfl, _⟩ := h; rfl) (draws_ok)
  have c__law_take := ok__law_take (k := 0) (base := base) (P := P) (w := w) (T := T) Z F__law_take m__law_take b__law_take (sp := sp_take) (fun d ds q x h => by obtain ⟨_, _, rfl, rfl, _⟩ := h; rfl) (take_ok)
  have c__law_says := ok__law_says (k := 0) (base := base) (P := P) (w := w) (T := T) Z F__law_says m__law_says b__law_says (sp := sp_says) (fun ds q x h => by obtain ⟨_, rfl, _⟩ := h; rfl) (says_ok)
  have c_alike0 := ok__law_alike (k := 0) (base := base) (P := P) (w := w) (T := T) Z (CallD.bot m__law_alike F__law_alike.kp b__law_alike) F__law_alike m__law_alike b__law_alike (sp := LW.sp_alikeN 0) (fun ds q x h => by obtain ⟨_, rfl, _⟩ := h; rfl) (LW.alikeN0_ok _)
  have c_alike1 := ok__law_alike (k := 1) (base := base) (P := P) (w := w) (T := T) Z c_alike0 F__law_alike m__law_alike b__law_alike (sp := LW.sp_alikeN 1) (fun ds q x h => by obtain ⟨_, rfl, _⟩ := h; rfl) (LW.alikeN_ok 0 1 (by decide))
  have c_alike2 := ok__law_alike (k := 2) (base := base) (P := P) (w := w) (T := T) Z c_alike1 F__law_alike m__law_alike b__law_alike (sp := LW.sp_alikeN 2) (fun ds q x h => by obtain ⟨_, rfl, _⟩ := h; rfl) (LW.alikeN_ok 1 2 (by decide))
  have c__law_alike := ok__law_alike (k := 3) (base := base) (P := P) (w := w) (T := T) Z c_alike2 F__law_alike m__law_alike b__law_alike (sp := LW.sp_alikeN 3) (fun ds q x h => by obtain ⟨_, rfl, _⟩ := h; rfl) (LW.alikeN_ok 2 3 (by decide))
  have c__law_gas := ok__law_gas (k := 0) (base := base) (P := P) (w := w) (T := T) Z F__law_gas m__law_gas b__law_gas (sp := sp_row) (fun ds q x h => by obtain ⟨_, _, _, _, rfl, _⟩ := h; rfl) (lgas_ok)
  have c__law_fly := ok__law_fly (k := 1) (base := base) (P := P) (w := w) (T := T) Z (c__law_gas.mono (by decide)) F__law_fly m__law_fly b__law_fly (sp := sp_fly) (fun ds q x h => by obtain ⟨_, _, _, _, rfl, _⟩ := h; rfl) (fly_ok)
  exact fn_ok (k := 4) F_law sc_law (fun ds q x h => by obtain ⟨_, rfl, _⟩ := h; rfl) (fun cdv A outer s H E hr => d_law Z (c__law_draws.mono (by decide)) (c__law_take.mono (by decide)) (c__law_gas.mono (by decide)) (c__law_fly.mono (by decide)) (c__law_says.mono (by decide)) (c_is_balloon.mono (by decide)) (c__law_alike.mono (by decide)) (c_hours_of.mono (by decide)) (c_thrown_by.mono (by decide)) (c_gas_at.mono (by decide)) (c_bags_at.mono (by decide)) (c_fewest_throws.mono (by decide)) cdv A outer s H E hr) (law_ok)
theorem ends {l : PySem.W.OpenLaw} {q : Program} {w : World} {K : PySem.W.Frag} {h : Heap} {mg : Str → Option Value} {fa : Addr} (X : K.In h) (G : h.Ns mainGlobals mg) (hfa : mg "law" = some (.ref fa)) (HT : HeadTabs q K h)
    {f_is_number : Addr} {od_is_number an_is_number : Option Addr} {sl_is_number : Array (Option Value)} {oc_is_number kV_is_number dc_is_number pm_is_number cd_is_number ct_is_number : Value}
    (a_is_number : PySem.W.nsIn K mainGlobals "is_number" = some (some (.ref f_is_number))) (l_is_number : K.lookup f_is_number = some ⟨oc_is_number, od_is_number, .func (PySem.W.fnOf "is_number" "is_number" (defArgs s_is_number) (defBody s_is_number) (defScope s_is_number) .none kV_is_number dc_is_number pm_is_number an_is_number cd_is_number ct_is_number), sl_is_number⟩) (u_is_number : PySem.W.codeIn K cd_is_number "is_number" = true) (v_is_number : PySem.W.keepIn K (.ref f_is_number) = true)
    {f_is_balloon : Addr} {od_is_balloon an_is_balloon : Option Addr} {sl_is_balloon : Array (Option Value)} {oc_is_balloon kV_is_balloon dc_is_balloon pm_is_balloon cd_is_balloon ct_is_balloon : Value}
    (a_is_balloon : PySem.W.nsIn K mainGlobals "is_balloon" = some (some (.ref f_is_balloon))) (l_is_balloon : K.lookup f_is_balloon = some ⟨oc_is_balloon, od_is_balloon, .func (PySem.W.fnOf "is_balloon" "is_balloon" (defArgs s_is_balloon) (defBody s_is_balloon) (defScope s_is_balloon) .none kV_is_balloon dc_is_balloon pm_is_balloon an_is_balloon cd_is_balloon ct_is_balloon), sl_is_balloon⟩) (u_is_balloon : PySem.W.codeIn K cd_is_balloon "is_balloon" = true) (v_is_balloon : PySem.W.keepIn K (.ref f_is_balloon) = true)
    {f_gas_row : Addr} {od_gas_row an_gas_row : Option Addr} {sl_gas_row : Array (Option Value)} {oc_gas_row kV_gas_row dc_gas_row pm_gas_row cd_gas_row ct_gas_row : Value}
    (a_gas_row : PySem.W.nsIn K mainGlobals "gas_row" = some (some (.ref f_gas_row))) (l_gas_row : K.lookup f_gas_row = some ⟨oc_gas_row, od_gas_row, .func (PySem.W.fnOf "gas_row" "gas_row" (defArgs s_gas_row) (defBody s_gas_row) (defScope s_gas_row) .none kV_gas_row dc_gas_row pm_gas_row an_gas_row cd_gas_row ct_gas_row), sl_gas_row⟩) (u_gas_row : PySem.W.codeIn K cd_gas_row "gas_row" = true) (v_gas_row : PySem.W.keepIn K (.ref f_gas_row) = true)
    {f_gas_at : Addr} {od_gas_at an_gas_at : Option Addr} {sl_gas_at : Array (Option Value)} {oc_gas_at kV_gas_at dc_gas_at pm_gas_at cd_gas_at ct_gas_at : Value}
    (a_gas_at : PySem.W.nsIn K mainGlobals "gas_at" = some (some (.ref f_gas_at))) (l_gas_at : K.lookup f_gas_at = some ⟨oc_gas_at, od_gas_at, .func (PySem.W.fnOf "gas_at" "gas_at" (defArgs s_gas_at) (defBody s_gas_at) (defScope s_gas_at) .none kV_gas_at dc_gas_at pm_gas_at an_gas_at cd_gas_at ct_gas_at), sl_gas_at⟩) (u_gas_at : PySem.W.codeIn K cd_gas_at "gas_at" = true) (v_gas_at : PySem.W.keepIn K (.ref f_gas_at) = true)
    {f_hours_of : Addr} {od_hours_of an_hours_of : Option Addr} {sl_hours_of : Array (Option Value)} {oc_hours_of kV_hours_of dc_hours_of pm_hours_of cd_hours_of ct_hours_of : Value}
    (a_hours_of : PySem.W.nsIn K mainGlobals "hours_of" = some (some (.ref f_hours_of))) (l_hours_of : K.lookup f_hours_of = some ⟨oc_hours_of, od_hours_of, .func (PySem.W.fnOf "hours_of" "hours_of" (defArgs s_hours_of) (defBody s_hours_of) (defScope s_hours_of) .none kV_hours_of dc_hours_of pm_hours_of an_hours_of cd_hours_of ct_hours_of), sl_hours_of⟩) (u_hours_of : PySem.W.codeIn K cd_hours_of "hours_of" = true) (v_hours_of : PySem.W.keepIn K (.ref f_hours_of) = true)
    {f_flight_of : Addr} {od_flight_of an_flight_of : Option Addr} {sl_flight_of : Array (Option Value)} {oc_flight_of kV_flight_of dc_flight_of pm_flight_of cd_flight_of ct_flight_of : Value}
    (a_flight_of : PySem.W.nsIn K mainGlobals "flight_of" = some (some (.ref f_flight_of))) (l_flight_of : K.lookup f_flight_of = some ⟨oc_flight_of, od_flight_of, .func (PySem.W.fnOf "flight_of" "flight_of" (defArgs s_flight_of) (defBody s_flight_of) (defScope s_flight_of) .none kV_flight_of dc_flight_of pm_flight_of an_flight_of cd_flight_of ct_flight_of), sl_flight_of⟩) (u_flight_of : PySem.W.codeIn K cd_flight_of "flight_of" = true) (v_flight_of : PySem.W.keepIn K (.ref f_flight_of) = true)
    {f_thrown_by : Addr} {od_thrown_by an_thrown_by : Option Addr} {sl_thrown_by : Array (Option Value)} {oc_thrown_by kV_thrown_by dc_thrown_by pm_thrown_by cd_thrown_by ct_thrown_by : Value}
    (a_thrown_by : PySem.W.nsIn K mainGlobals "thrown_by" = some (some (.ref f_thrown_by))) (l_thrown_by : K.lookup f_thrown_by = some ⟨oc_thrown_by, od_thrown_by, .func (PySem.W.fnOf "thrown_by" "thrown_by" (defArgs s_thrown_by) (defBody s_thrown_by) (defScope s_thrown_by) .none kV_thrown_by dc_thrown_by pm_thrown_by an_thrown_by cd_thrown_by ct_thrown_by), sl_thrown_by⟩) (u_thrown_by : PySem.W.codeIn K cd_thrown_by "thrown_by" = true) (v_thrown_by : PySem.W.keepIn K (.ref f_thrown_by) = true)
    {f_bags_at : Addr} {od_bags_at an_bags_at : Option Addr} {sl_bags_at : Array (Option Value)} {oc_bags_at kV_bags_at dc_bags_at pm_bags_at cd_bags_at ct_bags_at : Value}
    (a_bags_at : PySem.W.nsIn K mainGlobals "bags_at" = some (some (.ref f_bags_at))) (l_bags_at : K.lookup f_bags_at = some ⟨oc_bags_at, od_bags_at, .func (PySem.W.fnOf "bags_at" "bags_at" (defArgs s_bags_at) (defBody s_bags_at) (defScope s_bags_at) .none kV_bags_at dc_bags_at pm_bags_at an_bags_at cd_bags_at ct_bags_at), sl_bags_at⟩) (u_bags_at : PySem.W.codeIn K cd_bags_at "bags_at" = true) (v_bags_at : PySem.W.keepIn K (.ref f_bags_at) = true)
    {f_fewest_throws : Addr} {od_fewest_throws an_fewest_throws : Option Addr} {sl_fewest_throws : Array (Option Value)} {oc_fewest_throws kV_fewest_throws dc_fewest_throws pm_fewest_throws cd_fewest_throws ct_fewest_throws : Value}
    (a_fewest_throws : PySem.W.nsIn K mainGlobals "fewest_throws" = some (some (.ref f_fewest_throws))) (l_fewest_throws : K.lookup f_fewest_throws = some ⟨oc_fewest_throws, od_fewest_throws, .func (PySem.W.fnOf "fewest_throws" "fewest_throws" (defArgs s_fewest_throws) (defBody s_fewest_throws) (defScope s_fewest_throws) .none kV_fewest_throws dc_fewest_throws pm_fewest_throws an_fewest_throws cd_fewest_throws ct_fewest_throws), sl_fewest_throws⟩) (u_fewest_throws : PySem.W.codeIn K cd_fewest_throws "fewest_throws" = true) (v_fewest_throws : PySem.W.keepIn K (.ref f_fewest_throws) = true)
    {f__law_draws : Addr} {od__law_draws an__law_draws : Option Addr} {sl__law_draws : Array (Option Value)} {oc__law_draws kV__law_draws dc__law_draws pm__law_draws cd__law_draws ct__law_draws : Value}
    (a__law_draws : PySem.W.nsIn K mainGlobals "_law_draws" = some (some (.ref f__law_draws))) (l__law_draws : K.lookup f__law_draws = some ⟨oc__law_draws, od__law_draws, .func (PySem.W.fnOf "_law_draws" "_law_draws" (defArgs s__law_draws) (defBody s__law_draws) (defScope s__law_draws) .none kV__law_draws dc__law_draws pm__law_draws an__law_draws cd__law_draws ct__law_draws), sl__law_draws⟩) (u__law_draws : PySem.W.codeIn K cd__law_draws "_law_draws" = true) (v__law_draws : PySem.W.keepIn K (.ref f__law_draws) = true)
    {f__law_take : Addr} {od__law_take an__law_take : Option Addr} {sl__law_take : Array (Option Value)} {oc__law_take kV__law_take dc__law_take pm__law_take cd__law_take ct__law_take : Value}
    (a__law_take : PySem.W.nsIn K mainGlobals "_law_take" = some (some (.ref f__law_take))) (l__law_take : K.lookup f__law_take = some ⟨oc__law_take, od__law_take, .func (PySem.W.fnOf "_law_take" "_law_take" (defArgs s__law_take) (defBody s__law_take) (defScope s__law_take) .none kV__law_take dc__law_take pm__law_take an__law_take cd__law_take ct__law_take), sl__law_take⟩) (u__law_take : PySem.W.codeIn K cd__law_take "_law_take" = true) (v__law_take : PySem.W.keepIn K (.ref f__law_take) = true)
    {f__law_says : Addr} {od__law_says an__law_says : Option Addr} {sl__law_says : Array (Option Value)} {oc__law_says kV__law_says dc__law_says pm__law_says cd__law_says ct__law_says : Value}
    (a__law_says : PySem.W.nsIn K mainGlobals "_law_says" = some (some (.ref f__law_says))) (l__law_says : K.lookup f__law_says = some ⟨oc__law_says, od__law_says, .func (PySem.W.fnOf "_law_says" "_law_says" (defArgs s__law_says) (defBody s__law_says) (defScope s__law_says) .none kV__law_says dc__law_says pm__law_says an__law_says cd__law_says ct__law_says), sl__law_says⟩) (u__law_says : PySem.W.codeIn K cd__law_says "_law_says" = true) (v__law_says : PySem.W.keepIn K (.ref f__law_says) = true)
    {f__law_alike : Addr} {od__law_alike an__law_alike : Option Addr} {sl__law_alike : Array (Option Value)} {oc__law_alike kV__law_alike dc__law_alike pm__law_alike cd__law_alike ct__law_alike : Value}
    (a__law_alike : PySem.W.nsIn K mainGlobals "_law_alike" = some (some (.ref f__law_alike))) (l__law_alike : K.lookup f__law_alike = some ⟨oc__law_alike, od__law_alike, .func (PySem.W.fnOf "_law_alike" "_law_alike" (defArgs s__law_alike) (defBody s__law_alike) (defScope s__law_alike) .none kV__law_alike dc__law_alike pm__law_alike an__law_alike cd__law_alike ct__law_alike), sl__law_alike⟩) (u__law_alike : PySem.W.codeIn K cd__law_alike "_law_alike" = true) (v__law_alike : PySem.W.keepIn K (.ref f__law_alike) = true)
    {f__law_gas : Addr} {od__law_gas an__law_gas : Option Addr} {sl__law_gas : Array (Option Value)} {oc__law_gas kV__law_gas dc__law_gas pm__law_gas cd__law_gas ct__law_gas : Value}
    (a__law_gas : PySem.W.nsIn K mainGlobals "_law_gas" = some (some (.ref f__law_gas))) (l__law_gas : K.lookup f__law_gas = some ⟨oc__law_gas, od__law_gas, .func (PySem.W.fnOf "_law_gas" "_law_gas" (defArgs s__law_gas) (defBody s__law_gas) (defScope s__law_gas) .none kV__law_gas dc__law_gas pm__law_gas an__law_gas cd__law_gas ct__law_gas), sl__law_gas⟩) (u__law_gas : PySem.W.codeIn K cd__law_gas "_law_gas" = true) (v__law_gas : PySem.W.keepIn K (.ref f__law_gas) = true)
    {f__law_fly : Addr} {od__law_fly an__law_fly : Option Addr} {sl__law_fly : Array (Option Value)} {oc__law_fly kV__law_fly dc__law_fly pm__law_fly cd__law_fly ct__law_fly : Value}
    (a__law_fly : PySem.W.nsIn K mainGlobals "_law_fly" = some (some (.ref f__law_fly))) (l__law_fly : K.lookup f__law_fly = some ⟨oc__law_fly, od__law_fly, .func (PySem.W.fnOf "_law_fly" "_law_fly" (defArgs s__law_fly) (defBody s__law_fly) (defScope s__law_fly) .none kV__law_fly dc__law_fly pm__law_fly an__law_fly cd__law_fly ct__law_fly), sl__law_fly⟩) (u__law_fly : PySem.W.codeIn K cd__law_fly "_law_fly" = true) (v__law_fly : PySem.W.keepIn K (.ref f__law_fly) = true)
    {f_law : Addr} {od_law an_law : Option Addr} {sl_law : Array (Option Value)} {oc_law kV_law dc_law pm_law cd_law ct_law : Value}
    (a_law : PySem.W.nsIn K mainGlobals "law" = some (some (.ref f_law))) (l_law : K.lookup f_law = some ⟨oc_law, od_law, .func (PySem.W.fnOf "law" "law" (defArgs s_law) (defBody s_law) (defScope s_law) .none kV_law dc_law pm_law an_law cd_law ct_law), sl_law⟩) (u_law : PySem.W.codeIn K cd_law "law" = true) (v_law : PySem.W.keepIn K (.ref f_law) = true)
    {cG_is_balloon PG_is_balloon : Addr} (tb_is_balloon : PySem.W.tabIn K "is_balloon" = some (cG_is_balloon, PG_is_balloon)) (tq_is_balloon : ((recsOf q).find? fun e => e.name == ("is_balloon" : Str)).isSome = true) (tn_is_balloon : K.lookup PG_is_balloon = none)
    (z_abs : PySem.W.nsIn K mainGlobals "abs" = some none)
    (z_all : PySem.W.nsIn K mainGlobals "all" = some none)
    (z_bool : PySem.W.nsIn K mainGlobals "bool" = some none)
    (z_enumerate : PySem.W.nsIn K mainGlobals "enumerate" = some none)
    (z_int : PySem.W.nsIn K mainGlobals "int" = some none)
    (z_isinstance : PySem.W.nsIn K mainGlobals "isinstance" = some none)
    (z_len : PySem.W.nsIn K mainGlobals "len" = some none)
    (z_list : PySem.W.nsIn K mainGlobals "list" = some none)
    (z_max : PySem.W.nsIn K mainGlobals "max" = some none)
    (z_min : PySem.W.nsIn K mainGlobals "min" = some none)
    (z_range : PySem.W.nsIn K mainGlobals "range" = some none)
    (z_reversed : PySem.W.nsIn K mainGlobals "reversed" = some none)
    (z_sorted : PySem.W.nsIn K mainGlobals "sorted" = some none)
    (z_str : PySem.W.nsIn K mainGlobals "str" = some none)
    (z_sum : PySem.W.nsIn K mainGlobals "sum" = some none)
    (z_tuple : PySem.W.nsIn K mainGlobals "tuple" = some none)
    {t_LEAST_PART : Tok} (g_LEAST_PART : PySem.W.nsIn K mainGlobals "LEAST_PART" = some (some (.int 2 t_LEAST_PART)))
    {t_MOST_BAG : Tok} (g_MOST_BAG : PySem.W.nsIn K mainGlobals "MOST_BAG" = some (some (.int 100 t_MOST_BAG)))
    {t_MOST_BAGS : Tok} (g_MOST_BAGS : PySem.W.nsIn K mainGlobals "MOST_BAGS" = some (some (.int 10 t_MOST_BAGS)))
    {t_MOST_GAS : Tok} (g_MOST_GAS : PySem.W.nsIn K mainGlobals "MOST_GAS" = some (some (.int 1000 t_MOST_GAS)))
    {t_MOST_PART : Tok} (g_MOST_PART : PySem.W.nsIn K mainGlobals "MOST_PART" = some (some (.int 20 t_MOST_PART)))
    {t_MOST_WEIGHT : Tok} (g_MOST_WEIGHT : PySem.W.nsIn K mainGlobals "MOST_WEIGHT" = some (some (.int 500 t_MOST_WEIGHT)))
    : LamX.LawAtS l w K (L2N.CX l.prog w) 5 63 "script" mg fa h := by
  have e := hfa.symm.trans (PySem.W.mg_of X G a_law)
  cases e
  have F_is_number := fun_mk (st := s_is_number) l_is_number u_is_number v_is_number
  have F_is_balloon := fun_mk (st := s_is_balloon) l_is_balloon u_is_balloon v_is_balloon
  have F_gas_row := fun_mk (st := s_gas_row) l_gas_row u_gas_row v_gas_row
  have F_gas_at := fun_mk (st := s_gas_at) l_gas_at u_gas_at v_gas_at
  have F_hours_of := fun_mk (st := s_hours_of) l_hours_of u_hours_of v_hours_of
  have F_flight_of := fun_mk (st := s_flight_of) l_flight_of u_flight_of v_flight_of
  have F_thrown_by := fun_mk (st := s_thrown_by) l_thrown_by u_thrown_by v_thrown_by
  have F_bags_at := fun_mk (st := s_bags_at) l_bags_at u_bags_at v_bags_at
  have F_fewest_throws := fun_mk (st := s_fewest_throws) l_fewest_throws u_fewest_throws v_fewest_throws
  have F__law_draws := fun_mk (st := s__law_draws) l__law_draws u__law_draws v__law_draws
  have F__law_take := fun_mk (st := s__law_take) l__law_take u__law_take v__law_take
  have F__law_says := fun_mk (st := s__law_says) l__law_says u__law_says v__law_says
  have F__law_alike := fun_mk (st := s__law_alike) l__law_alike u__law_alike v__law_alike
  have F__law_gas := fun_mk (st := s__law_gas) l__law_gas u__law_gas v__law_gas
  have F__law_fly := fun_mk (st := s__law_fly) l__law_fly u__law_fly v__law_fly
  have F_law := fun_mk (st := s_law) l_law u_law v_law
  have Z : Top K mg := {
    b_abs := PySem.W.mg_none_of X G z_abs
    b_all := PySem.W.mg_none_of X G z_all
    b_bool := PySem.W.mg_none_of X G z_bool
    b_enumerate := PySem.W.mg_none_of X G z_enumerate
    b_int := PySem.W.mg_none_of X G z_int
    b_isinstance := PySem.W.mg_none_of X G z_isinstance
    b_len := PySem.W.mg_none_of X G z_len
    b_list := PySem.W.mg_none_of X G z_list
    b_max := PySem.W.mg_none_of X G z_max
    b_min := PySem.W.mg_none_of X G z_min
    b_range := PySem.W.mg_none_of X G z_range
    b_reversed := PySem.W.mg_none_of X G z_reversed
    b_sorted := PySem.W.mg_none_of X G z_sorted
    b_str := PySem.W.mg_none_of X G z_str
    b_sum := PySem.W.mg_none_of X G z_sum
    b_tuple := PySem.W.mg_none_of X G z_tuple
    g_LEAST_PART := ⟨_, PySem.W.mg_of X G g_LEAST_PART⟩
    g_MOST_BAG := ⟨_, PySem.W.mg_of X G g_MOST_BAG⟩
    g_MOST_BAGS := ⟨_, PySem.W.mg_of X G g_MOST_BAGS⟩
    g_MOST_GAS := ⟨_, PySem.W.mg_of X G g_MOST_GAS⟩
    g_MOST_PART := ⟨_, PySem.W.mg_of X G g_MOST_PART⟩
    g_MOST_WEIGHT := ⟨_, PySem.W.mg_of X G g_MOST_WEIGHT⟩
    }
  obtain ⟨cs, hcs⟩ : ∃ cs : List (Addr × Addr), cs = [(cG_is_balloon, PG_is_balloon)] := ⟨_, rfl⟩
  refine ⟨PySem.W.fnOf "law" "law" (defArgs s_law) (defBody s_law) (defScope s_law) .none kV_law dc_law pm_law an_law cd_law ct_law, [(cG_is_balloon, PG_is_balloon)], liftSp K (fun a => ∃ p, p ∈ ([(cG_is_balloon, PG_is_balloon)] : List (Addr × Addr)) ∧ p.2 = a) sp_law, (fun p hp => by
    simp only [List.mem_cons, List.not_mem_nil, or_false] at hp
    rcases hp with rfl
    · exact (HT _ _ _ tq_is_balloon tb_is_balloon).2), (fun p hp => by
    simp only [List.mem_cons, List.not_mem_nil, or_false] at hp
    rcases hp with rfl
    · exact tn_is_balloon), (fun p hp => by
    simp only [List.mem_cons, List.not_mem_nil, or_false] at hp
    rcases hp with rfl
    · exact (HT _ _ _ tq_is_balloon tb_is_balloon).1), fun s v => .of_eq rfl, (fun H a ns hl hb hH hS => script_lift ⟨ns, rfl, hl, fun z hz => bt_bits (hb z hz), rfl⟩ (fun a ⟨p, hp, e⟩ => by rw [← e]; exact tabG_0 (hH p hp)) hS), fun base _ _ TBs => chain Z
    F_is_number (PySem.W.mg_of X G a_is_number)
    F_is_balloon (PySem.W.mg_of X G a_is_balloon)
    F_gas_row (PySem.W.mg_of X G a_gas_row)
    F_gas_at (PySem.W.mg_of X G a_gas_at)
    F_hours_of (PySem.W.mg_of X G a_hours_of)
    F_flight_of (PySem.W.mg_of X G a_flight_of)
    F_thrown_by (PySem.W.mg_of X G a_thrown_by)
    F_bags_at (PySem.W.mg_of X G a_bags_at)
    F_fewest_throws (PySem.W.mg_of X G a_fewest_throws)
    F__law_draws (PySem.W.mg_of X G a__law_draws)
    F__law_take (PySem.W.mg_of X G a__law_take)
    F__law_says (PySem.W.mg_of X G a__law_says)
    F__law_alike (PySem.W.mg_of X G a__law_alike)
    F__law_gas (PySem.W.mg_of X G a__law_gas)
    F__law_fly (PySem.W.mg_of X G a__law_fly)
    F_law (PySem.W.mg_of X G a_law)
    (tabIn_code a_is_balloon l_is_balloon tb_is_balloon) ⟨⟨(TBs (cG_is_balloon, PG_is_balloon) (by simp)).code, (TBs (cG_is_balloon, PG_is_balloon) (by simp)).bm, (TBs (cG_is_balloon, PG_is_balloon) (by simp)).gP⟩, ⟨(cG_is_balloon, PG_is_balloon), by simp, rfl⟩⟩
    ⟩
end K88
open PySem PySem.W PyProof.Rows
set_option maxHeartbeats 0 in
theorem PySem.Challenge.cw_kiteheld_k88_whole_balloons_that_sink_holds : PySem.Challenge.rw_kiteheld_k88_whole_balloons_that_sink.Holds := by
  w_on; o_law; k_head; (case hw => w_witness2)
  k_fill
  refine DL.walk_ofG (l := PySem.Challenge.rw_kiteheld_k88_whole_balloons_that_sink) (n := 63) (k := 5) (x := "script") (CX := fun w => L2N.CX PySem.Challenge.rw_kiteheld_k88_whole_balloons_that_sink.prog w) rfl (by decide) rfl ⟨rfl, by decide, by decide⟩ (fun w h Y => PySem.W.kIn_of Y) ?F (fun w H s e s' hc => hc.elim fun a ⟨B, H', cls, d, _, _, _, _, _, _, _, z⟩ => z)
  case F =>
    intro w mg fa h KX G hmg HT
    refine' K88.ends KX G hmg HT ?a_is_number ?l_is_number ?u_is_number ?v_is_number ?a_is_balloon ?l_is_balloon ?u_is_balloon ?v_is_balloon ?a_gas_row ?l_gas_row ?u_gas_row ?v_gas_row ?a_gas_at ?l_gas_at ?u_gas_at ?v_gas_at ?a_hours_of ?l_hours_of ?u_hours_of ?v_hours_of ?a_flight_of ?l_flight_of ?u_flight_of ?v_flight_of ?a_thrown_by ?l_thrown_by ?u_thrown_by ?v_thrown_by ?a_bags_at ?l_bags_at ?u_bags_at ?v_bags_at ?a_fewest_throws ?l_fewest_throws ?u_fewest_throws ?v_fewest_throws ?a__law_draws ?l__law_draws ?u__law_draws ?v__law_draws ?a__law_take ?l__law_take ?u__law_take ?v__law_take ?a__law_says ?l__law_says ?u__law_says ?v__law_says ?a__law_alike ?l__law_alike ?u__law_alike ?v__law_alike ?a__law_gas ?l__law_gas ?u__law_gas ?v__law_gas ?a__law_fly ?l__law_fly ?u__law_fly ?v__law_fly ?a_law ?l_law ?u_law ?v_law ?tb_is_balloon ?tq_is_balloon ?tn_is_balloon ?z_abs ?z_all ?z_bool ?z_enumerate ?z_int ?z_isinstance ?z_len ?z_list ?z_max ?z_min ?z_range ?z_reversed ?z_sorted ?z_str ?z_sum ?z_tuple ?g_LEAST_PART ?g_MOST_BAG ?g_MOST_BAGS ?g_MOST_GAS ?g_MOST_PART ?g_MOST_WEIGHT
    (case a_is_number => k_is)
    (case l_is_number => k_is)
    (case u_is_number => k_is)
    (case v_is_number => k_is)
    (case a_is_balloon => k_is)
    (case l_is_balloon => k_is)
    (case u_is_balloon => k_is)
    (case v_is_balloon => k_is)
    (case a_gas_row => k_is)
    (case l_gas_row => k_is)
    (case u_gas_row => k_is)
    (case v_gas_row => k_is)
    (case a_gas_at => k_is)
    (case l_gas_at => k_is)
    (case u_gas_at => k_is)
    (case v_gas_at => k_is)
    (case a_hours_of => k_is)
    (case l_hours_of => k_is)
    (case u_hours_of => k_is)
    (case v_hours_of => k_is)
    (case a_flight_of => k_is)
    (case l_flight_of => k_is)
    (case u_flight_of => k_is)
    (case v_flight_of => k_is)
    (case a_thrown_by => k_is)
    (case l_thrown_by => k_is)
    (case u_thrown_by => k_is)
    (case v_thrown_by => k_is)
    (case a_bags_at => k_is)
    (case l_bags_at => k_is)
    (case u_bags_at => k_is)
    (case v_bags_at => k_is)
    (case a_fewest_throws => k_is)
    (case l_fewest_throws => k_is)
    (case u_fewest_throws => k_is)
    (case v_fewest_throws => k_is)
    (case a__law_draws => k_is)
    (case l__law_draws => k_is)
    (case u__law_draws => k_is)
    (case v__law_draws => k_is)
    (case a__law_take => k_is)
    (case l__law_take => k_is)
    (case u__law_take => k_is)
    (case v__law_take => k_is)
    (case a__law_says => k_is)
    (case l__law_says => k_is)
    (case u__law_says => k_is)
    (case v__law_says => k_is)
    (case a__law_alike => k_is)
    (case l__law_alike => k_is)
    (case u__law_alike => k_is)
    (case v__law_alike => k_is)
    (case a__law_gas => k_is)
    (case l__law_gas => k_is)
    (case u__law_gas => k_is)
    (case v__law_gas => k_is)
    (case a__law_fly => k_is)
    (case l__law_fly => k_is)
    (case u__law_fly => k_is)
    (case v__law_fly => k_is)
    (case a_law => k_is)
    (case l_law => k_is)
    (case u_law => k_is)
    (case v_law => k_is)
    (case tb_is_balloon => (first | k_is | rfl))
    (case tq_is_balloon => (first | rfl | decide +kernel))
    (case tn_is_balloon => (first | rfl | decide +kernel))
    (case z_abs => k_is)
    (case z_all => k_is)
    (case z_bool => k_is)
    (case z_enumerate => k_is)
    (case z_int => k_is)
    (case z_isinstance => k_is)
    (case z_len => k_is)
    (case z_list => k_is)
    (case z_max => k_is)
    (case z_min => k_is)
    (case z_range => k_is)
    (case z_reversed => k_is)
    (case z_sorted => k_is)
    (case z_str => k_is)
    (case z_sum => k_is)
    (case z_tuple => k_is)
    (case g_LEAST_PART => k_is)
    (case g_MOST_BAG => k_is)
    (case g_MOST_BAGS => k_is)
    (case g_MOST_GAS => k_is)
    (case g_MOST_PART => k_is)
    (case g_MOST_WEIGHT => k_is)

