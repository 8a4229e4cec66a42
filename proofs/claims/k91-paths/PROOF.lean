import PyProof.Rows.All
import Wide.All
import OpenK.AllK
import Wide.FinOn
import HandS.ForMost
import HandS.ForExc
import HandS.Flow
import HandS.IsInst
import HandS.Wide
import HandS.AnyAll
import HandS.WideMore
import HandS.WideBits
import HandS.TupAny
import HandS.TupMul
import HandS.Style
import HandS.Walk
import HandS.ExcCtx
import HandS.HotCalls
import HandS.ExcIs
import HandS.Rev
import HandS.Gcd
import HandS.Small
import HandS.Conv
import HandS.SortInts
import HandS.Text
import PyProof.StrOps2
import PyProof.WalkInts
import HandS.TupLen
import KE.KDictPairs
import HandS.Iter
import HandS.Dict
import HandS.EndTab
import HandS.EndOwn
import KE.KNestM
import HandS.EndBits
import PySem.Challenge.RW_kiteheld_k91_whole_paths_through_all_squ
set_option Elab.async false
set_option linter.all false
set_option maxRecDepth 100000
set_option maxHeartbeats 4000000
/-! DL: a layer of plain data over the hand layer's readings. -/
namespace DL
open PySem PySem.Spec PyProof.Rows L2

/-- plain data -/
inductive D where
  | non | bl (b : Bool) | int (i : Int) | str (x : Str)
  | tup (xs : List D) | lst (xs : List D) | fz (xs : List D) | st (xs : List D)
  | dic (kvs : List (Key × D)) | dit (kvs : List (List Key × D))
  | op (v : V)

/-- a tuple that is read, none of the hot ones -/
def SqTM (_ : PySem.W.Frag) (_ : Addr → Prop) (H : Hp) (a : Addr) (xs : List V) : Prop := H a = some (.tup xs)
/-- a tuple that the top has made -/
def SqTS (K : PySem.W.Frag) (a : Addr) (xs : List V) : Prop := ∃ (o : Obj) (its : Array Value) (n : Nat), K.lookup a = some o ∧ o.cls = .type "tuple" ∧ o.data = .seq its n ∧ its.size ≤ sizeLine ∧ Vals xs its.toList
/-- a list that is read alone: the script -/
def SqLM (K : PySem.W.Frag) (M : Addr → Prop) (H : Hp) (a : Addr) (xs : List V) : Prop :=
  (Rd H a (.lst xs) ∧ ¬ M a) ∨
    ∃ (o : Obj) (its : Array Value) (n : Nat), K.lookup a = some o ∧ o.cls = .type "list" ∧ o.dict = none ∧ o.data = .seq its n ∧ its.size ≤ sizeLine ∧ Vals xs its.toList
theorem SqLM.sq {K : PySem.W.Frag} {M : Addr → Prop} {H : Hp} {a : Addr} {xs : List V} (h : SqLM K M H a xs) : SqL K H a xs := by
  rcases h with h | h
  · exact .inl h.1
  · exact .inr h
theorem SqTM.sq {K : PySem.W.Frag} {M : Addr → Prop} {H : Hp} {a : Addr} {xs : List V} (h : SqTM K M H a xs) : SqT K H a xs := .inl (.inl h)
theorem SqTS.sq {K : PySem.W.Frag} {H : Hp} {a : Addr} {xs : List V} (h : SqTS K a xs) : SqT K H a xs := .inr h

mutual
inductive Rep (K : PySem.W.Frag) (M : Addr → Prop) (H : Hp) : V → D → Prop
  | non : Rep K M H .non .non
  | bl (b : Bool) : Rep K M H (.bl b) (.bl b)
  | int (i : Int) : Rep K M H (.int i) (.int i)
  | str (x : Str) : Rep K M H (.str x) (.str x)
  | op (v : V) : Rep K M H v (.op v)
  | tup {a : Addr} {xs : List V} {ds : List D} : SqTM K M H a xs → RepL K M H xs ds → Rep K M H (.ref a) (.tup ds)
  | st {a : Addr} {xs : List V} {ds : List D} : SqTS K a xs → RepL K M H xs ds → Rep K M H (.ref a) (.st ds)
  | lst {a : Addr} {xs : List V} {ds : List D} : H a = some (.lst xs) → ¬ M a → RepL K M H xs ds → Rep K M H (.ref a) (.lst ds)
  | fz {a : Addr} {xs : List V} {ds : List D} : SqLM K M H a xs → RepL K M H xs ds → Rep K M H (.ref a) (.fz ds)
  | dic {a : Addr} {kvs : List (Key × V)} {kds : List (Key × D)} : Rd H a (.dK kvs) → ¬ M a → RepK K M H kvs kds → Rep K M H (.ref a) (.dic kds)
  | dit {a : Addr} {kvs : List (List Key × V)} {kds : List (List Key × D)} : Rd H a (.dT kvs) → ¬ M a → RepT K M H kvs kds → Rep K M H (.ref a) (.dit kds)
inductive RepL (K : PySem.W.Frag) (M : Addr → Prop) (H : Hp) : List V → List D → Prop
  | nil : RepL K M H [] []
  | cons {v : V} {vs : List V} {d : D} {ds : List D} : Rep K M H v d → RepL K M H vs ds → RepL K M H (v :: vs) (d :: ds)
inductive RepK (K : PySem.W.Frag) (M : Addr → Prop) (H : Hp) : List (Key × V) → List (Key × D) → Prop
  | nil : RepK K M H [] []
  | cons {k : Key} {v : V} {vs : List (Key × V)} {d : D} {ds : List (Key × D)} : Rep K M H v d → RepK K M H vs ds → RepK K M H ((k, v) :: vs) ((k, d) :: ds)
inductive RepT (K : PySem.W.Frag) (M : Addr → Prop) (H : Hp) : List (List Key × V) → List (List Key × D) → Prop
  | nil : RepT K M H [] []
  | cons {k : List Key} {v : V} {vs : List (List Key × V)} {d : D} {ds : List (List Key × D)} : Rep K M H v d → RepT K M H vs ds → RepT K M H ((k, v) :: vs) ((k, d) :: ds)
end

/-- what stood and was not hot stands and is not hot -/
def Dk : HO → Prop
  | .dK _ => True
  | .dT _ => True
  | _ => False
/-- it stands; a dict may have been made still -/
def Fz (H' : Hp) (a : Addr) (o : HO) : Prop := H' a = some o ∨ (Dk o ∧ ∃ od, H' a = some (.frz od o))
theorem Fz.eq {H' : Hp} {a : Addr} {o : HO} (h : Fz H' a o) (n : ¬ Dk o) : H' a = some o := h.elim id fun z => absurd z.1 n
theorem Fz.trans {H1 H2 : Hp} {a : Addr} {o : HO} (h : Fz H1 a o) (k : ∀ u, H1 a = some u → (∀ ps, u ≠ .tbl ps) → Fz H2 a u) (nt : ∀ ps, o ≠ .tbl ps) : Fz H2 a o := by
  rcases h with h | ⟨d, od, h⟩
  · exact k o h nt
  · exact .inr ⟨d, od, (k _ h fun _ z => nomatch z).eq fun z => z⟩
theorem Fz.upd {H' : Hp} {a b : Addr} {o u : HO} (h : Fz H' a o) (n : a ≠ b) : Fz (L2.upd H' b u) a o := by
  rcases h with h | ⟨d, od, h⟩
  · exact .inl ((upd_ne n).trans h)
  · exact .inr ⟨d, od, (upd_ne n).trans h⟩
theorem Fz.some {H' : Hp} {a : Addr} {o : HO} (h : Fz H' a o) : H' a ≠ none := by
  rcases h with h | ⟨_, od, h⟩
  · rw [h]; exact fun z => nomatch z
  · rw [h]; exact fun z => nomatch z
structure Keep (M : Addr → Prop) (H : Hp) (M' : Addr → Prop) (H' : Hp) : Prop where
  c : ∀ a o, H a = some o → ¬ M a → (∀ ps, o ≠ .tbl ps) → Fz H' a o ∧ ¬ M' a
  t : ∀ a xs, H a = some (.tup xs) → H' a = some (.tup xs)
section
variable {K : PySem.W.Frag} {M M' : Addr → Prop} {H H' : Hp}
theorem SqLM.keep (k : Keep M H M' H') {a : Addr} {xs : List V} (h : SqLM K M H a xs) : SqLM K M' H' a xs := by
  rcases h with ⟨h | ⟨o, h⟩, n⟩ | h
  · exact .inl ⟨.inl ((k.c _ _ h n (fun _ z => nomatch z)).1.eq fun z => z), (k.c _ _ h n (fun _ z => nomatch z)).2⟩
  · exact .inl ⟨.inr ⟨o, (k.c _ _ h n (fun _ z => nomatch z)).1.eq fun z => z⟩, (k.c _ _ h n (fun _ z => nomatch z)).2⟩
  · exact .inr h
theorem rd_keep (k : Keep M H M' H') {a : Addr} {u : HO} (h : Rd H a u) (n : ¬ M a) (nt : ∀ ps, u ≠ .tbl ps) : Rd H' a u ∧ ¬ M' a := by
  rcases h with h | ⟨o, h⟩
  · exact ⟨(k.c _ _ h n nt).1.elim .inl fun z => .inr z.2, (k.c _ _ h n nt).2⟩
  · exact ⟨.inr ⟨o, (k.c _ _ h n (fun _ z => nomatch z)).1.eq fun z => z⟩, (k.c _ _ h n (fun _ z => nomatch z)).2⟩
theorem SqTM.keep (k : Keep M H M' H') {a : Addr} {xs : List V} (h : SqTM K M H a xs) : SqTM K M' H' a xs := k.t _ _ h
mutual
theorem Rep.keep (k : Keep M H M' H') : ∀ {v : V} {d : D}, Rep K M H v d → Rep K M' H' v d
  | _, _, .non => .non
  | _, _, .bl b => .bl b
  | _, _, .int i => .int i
  | _, _, .str x => .str x
  | _, _, .op v => .op v
  | _, _, .tup h r => .tup (h.keep k) (RepL.keep k r)
  | _, _, .st h r => .st h (RepL.keep k r)
  | _, _, .lst h n r => .lst ((k.c _ _ h n (fun _ z => nomatch z)).1.eq fun z => z) (k.c _ _ h n (fun _ z => nomatch z)).2 (RepL.keep k r)
  | _, _, .fz h r => .fz (h.keep k) (RepL.keep k r)
  | _, _, .dic h n r => .dic (rd_keep k h n (fun _ z => nomatch z)).1 (rd_keep k h n (fun _ z => nomatch z)).2 (RepK.keep k r)
  | _, _, .dit h n r => .dit (rd_keep k h n (fun _ z => nomatch z)).1 (rd_keep k h n (fun _ z => nomatch z)).2 (RepT.keep k r)
theorem RepL.keep (k : Keep M H M' H') : ∀ {v : List V} {d : List D}, RepL K M H v d → RepL K M' H' v d
  | _, _, .nil => .nil
  | _, _, .cons h r => .cons (Rep.keep k h) (RepL.keep k r)
theorem RepK.keep (k : Keep M H M' H') : ∀ {v : List (Key × V)} {d : List (Key × D)}, RepK K M H v d → RepK K M' H' v d
  | _, _, .nil => .nil
  | _, _, .cons h r => .cons (Rep.keep k h) (RepK.keep k r)
theorem RepT.keep (k : Keep M H M' H') : ∀ {v : List (List Key × V)} {d : List (List Key × D)}, RepT K M H v d → RepT K M' H' v d
  | _, _, .nil => .nil
  | _, _, .cons h r => .cons (Rep.keep k h) (RepT.keep k r)
end
theorem RepL.length : ∀ {v : List V} {d : List D}, RepL K M H v d → v.length = d.length
  | _, _, .nil => rfl
  | _, _, .cons _ r => by rw [List.length_cons, List.length_cons, RepL.length r]
theorem RepL.get : ∀ {v : List V} {d : List D} {i : Nat} {x : D}, RepL K M H v d → d[i]? = some x → ∃ u, v[i]? = some u ∧ Rep K M H u x
  | _, _, _, _, .nil, e => by simp at e
  | _, _, 0, _, .cons r _, e => by simp at e; subst e; exact ⟨_, rfl, r⟩
  | _, _, i + 1, x, .cons _ t, e => by
    obtain ⟨u, h1, h2⟩ := RepL.get (i := i) (x := x) t (by simpa using e)
    exact ⟨u, by simpa using h1, h2⟩
theorem RepL.get' : ∀ {v : List V} {d : List D} {i : Nat} {u : V}, RepL K M H v d → v[i]? = some u → ∃ x, d[i]? = some x ∧ Rep K M H u x
  | _, _, _, _, .nil, e => by simp at e
  | _, _, 0, _, .cons r _, e => by simp at e; subst e; exact ⟨_, rfl, r⟩
  | _, _, i + 1, x, .cons _ t, e => by
    obtain ⟨u, h1, h2⟩ := RepL.get' (i := i) (u := x) t (by simpa using e)
    exact ⟨u, by simpa using h1, h2⟩
theorem RepL.append : ∀ {v w : List V} {d e : List D}, RepL K M H v d → RepL K M H w e → RepL K M H (v ++ w) (d ++ e)
  | _, _, _, _, .nil, s => s
  | _, _, _, _, .cons r t, s => .cons r (RepL.append t s)
theorem RepL.take : ∀ {v : List V} {d : List D} (n : Nat), RepL K M H v d → RepL K M H (v.take n) (d.take n)
  | _, _, 0, _ => .nil
  | _, _, _ + 1, .nil => .nil
  | _, _, n + 1, .cons r t => .cons r (RepL.take n t)
theorem RepL.drop : ∀ {v : List V} {d : List D} (n : Nat), RepL K M H v d → RepL K M H (v.drop n) (d.drop n)
  | _, _, 0, r => r
  | _, _, _ + 1, .nil => .nil
  | _, _, n + 1, .cons _ t => RepL.drop n t
theorem RepL.set : ∀ {v : List V} {d : List D} {x : V} {y : D} (n : Nat), RepL K M H v d → Rep K M H x y → RepL K M H (v.set n x) (d.set n y)
  | _, _, _, _, _, .nil, _ => .nil
  | _, _, _, _, 0, .cons _ t, r => .cons r t
  | _, _, _, _, n + 1, .cons q t, r => .cons q (RepL.set n t r)
theorem RepL.rev {v : List V} {d : List D} (h : RepL K M H v d) : RepL K M H v.reverse d.reverse := by
  induction v generalizing d with
  | nil => cases h; exact .nil
  | cons x v ih =>
    cases h with
    | cons r t =>
      rw [List.reverse_cons, List.reverse_cons]
      exact (ih t).append (.cons r .nil)
theorem RepL.dropLast {v : List V} {d : List D} (h : RepL K M H v d) : RepL K M H v.dropLast d.dropLast := by
  rw [List.dropLast_eq_take, List.dropLast_eq_take, h.length]
  exact h.take _
theorem RepL.rep {v : List V} {d : List D} (h : RepL K M H v d) : ∀ k : Nat, RepL K M H (List.replicate k v).flatten (List.replicate k d).flatten
  | 0 => .nil
  | k + 1 => by
    rw [List.replicate_succ, List.replicate_succ, List.flatten_cons, List.flatten_cons]
    exact h.append (RepL.rep h k)
theorem RepL.ints : ∀ {v : List V} {ns : List Int}, RepL K M H v (ns.map D.int) → v = ns.map V.int
  | _, [], .nil => rfl
  | _, n :: ns, .cons r t => by
    cases r
    rw [List.map_cons, RepL.ints t]
theorem RepL.of_ints : ∀ (ns : List Int), RepL K M H (ns.map V.int) (ns.map D.int)
  | [] => .nil
  | _ :: ns => .cons (.int _) (RepL.of_ints ns)
end

/-- a thing that may be changed, its parts cold -/
def Own (K : PySem.W.Frag) (M : Addr → Prop) (H : Hp) (p : Addr) : D → Prop
  | .lst ds => ∃ xs, H p = some (.lst xs) ∧ RepL K M H xs ds
  | .dic kds => ∃ kvs, H p = some (.dK kvs) ∧ RepK K M H kvs kds
  | .dit kds => ∃ kvs, H p = some (.dT kvs) ∧ RepT K M H kvs kds
  | _ => False
theorem Own.keep {K : PySem.W.Frag} {M M' : Addr → Prop} {H H' : Hp} {p : Addr} {x : D} (k : Keep M H M' H') (hp : ∀ o, H p = some o → (∀ ps, o ≠ .tbl ps) → H' p = some o) (h : Own K M H p x) : Own K M' H' p x := by
  cases x with
  | lst ds => obtain ⟨xs, e, r⟩ := h; exact ⟨xs, hp _ e (fun _ z => nomatch z), r.keep k⟩
  | dic ds => obtain ⟨xs, e, r⟩ := h; exact ⟨xs, hp _ e (fun _ z => nomatch z), r.keep k⟩
  | dit ds => obtain ⟨xs, e, r⟩ := h; exact ⟨xs, hp _ e (fun _ z => nomatch z), r.keep k⟩
  | _ => exact h.elim
theorem Own.some {K : PySem.W.Frag} {M : Addr → Prop} {H : Hp} {p : Addr} {x : D} (h : Own K M H p x) : H p ≠ none := by
  cases x with
  | lst ds => obtain ⟨xs, e, r⟩ := h; rw [e]; exact fun z => nomatch z
  | dic ds => obtain ⟨xs, e, r⟩ := h; rw [e]; exact fun z => nomatch z
  | dit ds => obtain ⟨xs, e, r⟩ := h; rw [e]; exact fun z => nomatch z
  | _ => exact h.elim
theorem Own.nt {K : PySem.W.Frag} {M : Addr → Prop} {H : Hp} {p : Addr} {x : D} (h : Own K M H p x) : ∀ ps, H p ≠ Option.some (HO.tbl ps) := fun ps z => by
  cases x with
  | lst ds => obtain ⟨xs, e, r⟩ := h; rw [e] at z; cases z
  | dic ds => obtain ⟨xs, e, r⟩ := h; rw [e] at z; cases z
  | dit ds => obtain ⟨xs, e, r⟩ := h; rw [e] at z; cases z
  | _ => exact h.elim
theorem Own.rep {K : PySem.W.Frag} {M : Addr → Prop} {H : Hp} {p : Addr} {x : D} (h : Own K M H p x) (n : ¬ M p) : Rep K M H (.ref p) x := by
  cases x with
  | lst ds => obtain ⟨xs, e, r⟩ := h; exact .lst e n r
  | dic ds => obtain ⟨xs, e, r⟩ := h; exact .dic (.inl e) n r
  | dit ds => obtain ⟨xs, e, r⟩ := h; exact .dit (.inl e) n r
  | _ => exact h.elim

theorem Own.ntp {K : PySem.W.Frag} {M : Addr → Prop} {H : Hp} {p : Addr} {x : D} (h : Own K M H p x) : ∀ ps, H p ≠ Option.some (HO.tup ps) := fun ps z => by
  cases x with
  | lst ds => obtain ⟨xs, e, r⟩ := h; rw [e] at z; cases z
  | dic ds => obtain ⟨xs, e, r⟩ := h; rw [e] at z; cases z
  | dit ds => obtain ⟨xs, e, r⟩ := h; rw [e] at z; cases z
  | _ => exact h.elim
/-- a slot: nothing known, a datum, a thing of one's own that may be changed, the caller's thing that may be changed -/
inductive Sl where
  | no | va (d : D) | ow (d : D) | io (d : D)
abbrev Ev := List Sl
/-- what an expression gives: a datum, a new thing of one's own, the thing of a slot -/
inductive RV where
  | d (x : D) | n (x : D) | o (i : Nat)

/-- p may be written: a slot holds it as its own -/
def Wr (σ : L2.St) (ρ : Ev) (p : Addr) : Prop := ∃ (i : Nat) (d : D), (ρ[i]? = some (.ow d) ∨ ρ[i]? = some (.io d)) ∧ σ[i]? = some (some (.ref p))

/-- what a def's body is given: the caller's own thing; the tables of code objects -/
structure Amb where
  io : Option Addr
  tb : Addr → Prop
structure Sim (K : PySem.W.Frag) (p0 : Amb) (M : Addr → Prop) (σ : L2.St) (H : Hp) (ρ : Ev) : Prop where
  len : ρ.length = σ.length
  va : ∀ (i : Nat) (d : D), ρ[i]? = some (.va d) → ∃ v, σ[i]? = some (some v) ∧ Rep K M H v d
  ow : ∀ (i : Nat) (d : D), ρ[i]? = some (.ow d) → ∃ p, σ[i]? = some (some (.ref p)) ∧ M p ∧ Own K M H p d ∧ p0.io ≠ some p
  io : ∀ (i : Nat) (d : D), ρ[i]? = some (.io d) → ∃ p, σ[i]? = some (some (.ref p)) ∧ M p ∧ Own K M H p d ∧ p0.io = some p
  inj : ∀ (i j : Nat) (d e : D) (p : Addr), (ρ[i]? = some (.ow d) ∨ ρ[i]? = some (.io d)) → (ρ[j]? = some (.ow e) ∨ ρ[j]? = some (.io e)) → σ[i]? = some (some (.ref p)) → σ[j]? = some (some (.ref p)) → i = j
  mok : ∀ p, M p → H p ≠ none
  p0k : ∀ q, p0.io = some q → H q ≠ none
  tabs : ∀ q, p0.tb q → GxR.TabG H q
theorem Sim.hot {K : PySem.W.Frag} {p0 : Amb} {M : Addr → Prop} {σ : L2.St} {H : Hp} {ρ : Ev} (S : Sim K p0 M σ H ρ) {p : Addr} (h : Wr σ ρ p) : M p := by
  obtain ⟨i, d, h | h, e⟩ := h
  · obtain ⟨q, e1, m, _⟩ := S.ow i d h
    rw [e] at e1; cases e1; exact m
  · obtain ⟨q, e1, m, _⟩ := S.io i d h
    rw [e] at e1; cases e1; exact m

structure Step (M : Addr → Prop) (Wp : Addr → Prop) (H : Hp) (M' : Addr → Prop) (H' : Hp) : Prop where
  fr : ∀ a o, H a = some o → ¬ Wp a → (∀ ps, o ≠ .tbl ps) → Fz H' a o ∧ (M a → H' a = some o)
  sub : ∀ a, M' a → M a ∨ H a = none
  kp : ∀ a, M a → ¬ Wp a → M' a
  dom : ∀ a, H a ≠ none → H' a ≠ none
  tp : ∀ a xs, H a = some (.tup xs) → H' a = some (.tup xs)
  tb : ∀ a, GxR.TabG H a → GxR.TabG H' a
theorem tab_upd {H : Hp} {p : Addr} {o : HO} (h : ∀ ps, H p ≠ some (.tbl ps)) : ∀ a, GxR.TabG H a → GxR.TabG (upd H p o) a := fun a ⟨ps, e, t⟩ =>
  ⟨ps, by rw [upd_ne (fun z => h ps (by rw [← z]; exact e))]; exact e, t⟩
theorem Step.refl {M Wp : Addr → Prop} {H : Hp} : Step M Wp H M H := ⟨fun _ _ h _ _ => ⟨.inl h, fun _ => h⟩, fun _ h => .inl h, fun _ h _ => h, fun _ h => h, fun _ _ h => h, fun _ h => h⟩
theorem Step.trans {M M1 M2 W W1 : Addr → Prop} {H H1 H2 : Hp} (a : Step M W H M1 H1) (b : Step M1 W1 H1 M2 H2) (w : ∀ p, W1 p → W p ∨ H p = none) (mok : ∀ p, M p → H p ≠ none) : Step M W H M2 H2 where
  fr := fun p o h n t => by
    have nw : ¬ W1 p := fun z => (w p z).elim n fun z => by rw [h] at z; cases z
    obtain ⟨f1, e1⟩ := a.fr p o h n t
    exact ⟨f1.trans (fun u eu nt => (b.fr p u eu nw nt).1) t, fun m => (b.fr p o (e1 m) nw t).2 (a.kp p m n)⟩
  sub := fun p h => by
    rcases b.sub p h with h | h
    · exact a.sub p h
    · right
      cases q : H p with
      | none => rfl
      | some o => exact absurd h (a.dom p (by rw [q]; exact fun z => nomatch z))
  kp := fun p h n => b.kp p (a.kp p h n) fun z => (w p z).elim n fun z => mok p h z
  dom := fun p h => b.dom p (a.dom p h)
  tp := fun p xs h => b.tp p xs (a.tp p xs h)
  tb := fun p h => b.tb p (a.tb p h)
theorem Step.keep {M W M' : Addr → Prop} {H H' : Hp} (a : Step M W H M' H') (w : ∀ p, W p → M p) : Keep M H M' H' := ⟨fun p o h n t =>
  ⟨(a.fr p o h (fun z => n (w p z)) t).1, fun z => (a.sub p z).elim n fun z => by rw [h] at z; cases z⟩, a.tp⟩
theorem Step.weak {M W W' M' : Addr → Prop} {H H' : Hp} (a : Step M W H M' H') (w : ∀ p, W p → W' p) : Step M W' H M' H' :=
  ⟨fun p o h n => a.fr p o h fun z => n (w p z), a.sub, fun p h n => a.kp p h fun z => n (w p z), a.dom, a.tp, a.tb⟩
abbrev Nil : Addr → Prop := fun _ => False

structure Post (K : PySem.W.Frag) (p0 : Amb) (M : Addr → Prop) (σ : L2.St) (H : Hp) (ρ : Ev) (M' : Addr → Prop) (σ' : L2.St) (H' : Hp) (ρ' : Ev) : Prop where
  sim : Sim K p0 M' σ' H' ρ'
  step : Step M (Wr σ ρ) H M' H'
  wr : ∀ p, Wr σ' ρ' p → Wr σ ρ p ∨ H p = none
/-- slots that hold something go on to -/
def Slots (_ _ : Ev) : Prop := True
theorem Slots.refl (ρ : Ev) : Slots ρ ρ := trivial
theorem Slots.trans {ρ ρ1 ρ2 : Ev} (_ : Slots ρ ρ1) (_ : Slots ρ1 ρ2) : Slots ρ ρ2 := trivial
section
variable {K : PySem.W.Frag} {p0 : Amb} {M M1 M2 : Addr → Prop} {σ σ1 σ2 : L2.St} {H H1 H2 : Hp} {ρ ρ1 ρ2 : Ev}
theorem Post.refl (S : Sim K p0 M σ H ρ) : Post K p0 M σ H ρ M σ H ρ := ⟨S, Step.refl, fun _ h => .inl h⟩
theorem Post.trans (S : Sim K p0 M σ H ρ) (a : Post K p0 M σ H ρ M1 σ1 H1 ρ1) (b : Post K p0 M1 σ1 H1 ρ1 M2 σ2 H2 ρ2) : Post K p0 M σ H ρ M2 σ2 H2 ρ2 :=
  ⟨b.sim, a.step.trans b.step a.wr S.mok, fun p h => by
    rcases b.wr p h with h | h
    · exact a.wr p h
    · right
      cases q : H p with
      | none => rfl
      | some o => exact absurd h (a.step.dom p (by rw [q]; exact fun z => nomatch z))⟩
theorem Post.keep (S : Sim K p0 M σ H ρ) (a : Post K p0 M σ H ρ M1 σ1 H1 ρ1) : Keep M H M1 H1 := a.step.keep fun _ h => S.hot h
theorem dom_back {H H1 : Hp} (d : ∀ a, H a ≠ none → H1 a ≠ none) {p : Addr} (h : H1 p = none) : H p = none := by
  cases q : H p with
  | none => rfl
  | some o => exact absurd h (d p (by rw [q]; exact fun z => nomatch z))
/-- the state goes on where only new things have come -/
theorem Sim.more (S : Sim K p0 M σ H ρ) (a : Step M Nil H M1 H1) (mok : ∀ p, M1 p → H1 p ≠ none) : Sim K p0 M1 σ H1 ρ := by
  have k : Keep M H M1 H1 := a.keep fun _ z => z.elim
  refine ⟨S.len, fun i d h => ?_, fun i d h => ?_, fun i d h => ?_, S.inj, mok, fun q e => a.dom q (S.p0k q e), fun q e => a.tb q (S.tabs q e)⟩
  · obtain ⟨v, e, r⟩ := S.va i d h
    exact ⟨v, e, r.keep k⟩
  · obtain ⟨p, e, m, o, n⟩ := S.ow i d h
    exact ⟨p, e, a.kp p m fun z => z, o.keep k fun u z t => (a.fr p u z (fun z => z) t).2 m, n⟩
  · obtain ⟨p, e, m, o, n⟩ := S.io i d h
    exact ⟨p, e, a.kp p m fun z => z, o.keep k fun u z t => (a.fr p u z (fun z => z) t).2 m, n⟩
theorem Sim.post (S : Sim K p0 M σ H ρ) (a : Step M Nil H M1 H1) (mok : ∀ p, M1 p → H1 p ≠ none) : Post K p0 M σ H ρ M1 σ H1 ρ :=
  ⟨S.more a mok, a.weak fun _ z => z.elim, fun _ h => .inl h⟩
end

/-- a result and the value that bears it; H0: the heap ahead of the expression -/
def RVok (K : PySem.W.Frag) (M : Addr → Prop) (σ : L2.St) (ρ : Ev) (H0 H : Hp) (v : V) : RV → Prop
  | .d x => Rep K M H v x
  | .n x => ∃ p, v = .ref p ∧ M p ∧ ¬ Wr σ ρ p ∧ H0 p = none ∧ Own K M H p x
  | .o i => σ[i]? = some (some v) ∧ True
section
variable {K : PySem.W.Frag} {p0 : Amb} {M M1 : Addr → Prop} {σ : L2.St} {H0 H H1 : Hp} {ρ ρ1 : Ev} {v : V} {r : RV}
theorem RVok.post (S : Sim K p0 M σ H ρ) (a : Post K p0 M σ H ρ M1 σ H1 ρ1) (s : Slots ρ ρ1) (h : RVok K M σ ρ H0 H v r) : RVok K M1 σ ρ1 H0 H1 v r := by
  cases r with
  | d x => exact Rep.keep (a.keep S) h
  | n x =>
    obtain ⟨p, rfl, m, nw, f, o⟩ := h
    have hp := o.some
    refine ⟨p, rfl, a.step.kp p m nw, fun z => (a.wr p z).elim nw hp, f, o.keep (a.keep S) fun u e t => (a.step.fr p u e nw t).2 m⟩
  | o i =>
    exact h
theorem RVok.back {H00 : Hp} (d : ∀ a, H00 a ≠ none → H0 a ≠ none) (h : RVok K M σ ρ H0 H v r) : RVok K M σ ρ H00 H v r := by
  cases r with
  | d x => exact h
  | n x =>
    obtain ⟨p, rfl, m, nw, f, o⟩ := h
    exact ⟨p, rfl, m, nw, dom_back d f, o⟩
  | o i => exact h
end

/-- the datum of a result -/
def rdS : Option Sl → Option D
  | some (.va x) => some x
  | some (.ow x) => some x
  | some (.io x) => some x
  | _ => none
def rd (ρ : Ev) : RV → Option D
  | .d x => some x
  | .n x => some x
  | .o i => rdS ρ[i]?
/-- v bears x, its parts cold (v itself may be hot) -/
def RepC (K : PySem.W.Frag) (M : Addr → Prop) (H : Hp) (v : V) (x : D) : Prop := Rep K M H v x ∨ ∃ p, v = .ref p ∧ Own K M H p x
theorem rd_ok {K : PySem.W.Frag} {p0 : Amb} {M : Addr → Prop} {σ : L2.St} {H0 H : Hp} {ρ : Ev} {v : V} {r : RV} {x : D} (S : Sim K p0 M σ H ρ) (h : RVok K M σ ρ H0 H v r) (e : rd ρ r = some x) : RepC K M H v x := by
  cases r with
  | d y => cases e; exact .inl h
  | n y =>
    cases e
    obtain ⟨p, rfl, _, _, _, o⟩ := h
    exact .inr ⟨p, rfl, o⟩
  | o i =>
    obtain ⟨e1, _⟩ := h
    have e : rdS ρ[i]? = some x := e
    cases hy : ρ[i]? with
    | none => rw [hy] at e; cases e
    | some s =>
      rw [hy] at e
      cases s with
      | no => cases e
      | va y =>
        cases e
        obtain ⟨v', e2, r⟩ := S.va i _ hy
        rw [e1] at e2; cases e2
        exact .inl r
      | ow y =>
        cases e
        obtain ⟨p, e2, _, o, _⟩ := S.ow i _ hy
        rw [e1] at e2; cases e2
        exact .inr ⟨p, rfl, o⟩
      | io y =>
        cases e
        obtain ⟨p, e2, _, o, _⟩ := S.io i _ hy
        rw [e1] at e2; cases e2
        exact .inr ⟨p, rfl, o⟩

/-! ### readings over plain data -/
abbrev EK := RV → Ev → Prop
abbrev XQ := Addr → Ev → Prop
abbrev ET := Ev → EK → XQ → Prop

/-- an expression's reading over data, as a reading of the layer below; W: what is wanted of an exception -/
def lift (K : PySem.W.Frag) (p0 : Amb) (W : WX) (t : ET) : TE := fun σ H Q => ∃ (M : Addr → Prop) (ρ : Ev) (q : EK) (x : XQ), Sim K p0 M σ H ρ ∧ t ρ q x ∧
  (∀ v M' H' ρ' r, Post K p0 M σ H ρ M' σ H' ρ' → Slots ρ ρ' → RVok K M' σ ρ' H H' v r → q r ρ' → Q v H') ∧
  (∀ c M' H' ρ', Post K p0 M σ H ρ M' σ H' ρ' → x c ρ' → W (.ref c) none σ H')
/-- a test's -/
abbrev BT := Ev → (Bool → Ev → Prop) → XQ → Prop
def liftB (K : PySem.W.Frag) (p0 : Amb) (W : WX) (t : BT) : TT := fun σ H Q => ∃ (M : Addr → Prop) (ρ : Ev) (q : Bool → Ev → Prop) (x : XQ), Sim K p0 M σ H ρ ∧ t ρ q x ∧
  (∀ b M' H' ρ', Post K p0 M σ H ρ M' σ H' ρ' → Slots ρ ρ' → q b ρ' → Q b H') ∧
  (∀ c M' H' ρ', Post K p0 M σ H ρ M' σ H' ρ' → x c ρ' → W (.ref c) none σ H')
/-- the results of an argument list: new things lie apart -/
inductive RVsOk (K : PySem.W.Frag) (M : Addr → Prop) (σ : L2.St) (ρ : Ev) (H0 H : Hp) : List V → List RV → Prop
  | nil : RVsOk K M σ ρ H0 H [] []
  | cons {v : V} {vs : List V} {r : RV} {rs : List RV} : RVok K M σ ρ H0 H v r → (∀ y, r ≠ .n y) → RVsOk K M σ ρ H0 H vs rs → RVsOk K M σ ρ H0 H (v :: vs) (r :: rs)
abbrev AT := Ev → (List RV → Ev → Prop) → XQ → Prop
def liftA (K : PySem.W.Frag) (p0 : Amb) (W : WX) (t : AT) : TA := fun σ H Q => ∃ (M : Addr → Prop) (ρ : Ev) (q : List RV → Ev → Prop) (x : XQ), Sim K p0 M σ H ρ ∧ t ρ q x ∧
  (∀ vs M' H' ρ' rs, Post K p0 M σ H ρ M' σ H' ρ' → Slots ρ ρ' → RVsOk K M' σ ρ' H H' vs rs → q rs ρ' → Q vs H') ∧
  (∀ c M' H' ρ', Post K p0 M σ H ρ M' σ H' ρ' → x c ρ' → W (.ref c) none σ H')

structure DE (X : Cx) (p0 : Amb) (W : WX) (e : Expr) (t : ET) : Prop where
  pe : PE X e (lift X.K p0 W t)
structure DB (X : Cx) (p0 : Amb) (W : WX) (e : Expr) (t : BT) : Prop where
  pt : PT X e (liftB X.K p0 W t)
structure DA (X : Cx) (p0 : Amb) (W : WX) (es : List Expr) (t : AT) : Prop where
  pa : PA X es (liftA X.K p0 W t)
theorem PE.imp {X : Cx} {e : Expr} {t u : TE} (h : PE X e t) (i : ∀ σ H Q, u σ H Q → t σ H Q) : PE X e u := ⟨fun pins s σ H Q I hu => h.run pins s σ H Q I (i σ H Q hu)⟩
theorem PT.imp {X : Cx} {e : Expr} {t u : TT} (h : PT X e t) (i : ∀ σ H Q, u σ H Q → t σ H Q) : PT X e u := ⟨fun pins s σ H Q I hu => h.run pins s σ H Q I (i σ H Q hu)⟩
theorem PA.imp {X : Cx} {e : List Expr} {t u : TA} (h : PA X e t) (i : ∀ σ H Q, u σ H Q → t σ H Q) : PA X e u := ⟨fun pos pins s σ H Q I hu => h.run pos pins s σ H Q I (i σ H Q hu)⟩
theorem PS.imp {X : Cx} {e : Stmt} {t u : TS} (h : PS X e t) (i : ∀ D σ H, u D σ H → t D σ H) : PS X e u := ⟨fun pins s σ H Q I hu => h.run pins s σ H Q I (i Q σ H hu)⟩
theorem PSs.imp {X : Cx} {e : List Stmt} {t u : TS} (h : PSs X e t) (i : ∀ D σ H, u D σ H → t D σ H) : PSs X e u := ⟨fun pins s σ H Q I hu => h.run pins s σ H Q I (i Q σ H hu)⟩

end DL

set_option Elab.async false
set_option linter.all false
set_option maxRecDepth 100000
set_option maxHeartbeats 4000000
namespace DL
open PySem PySem.Spec PyProof.Rows L2

/-- what an operation on values has given -/
structure ResOk (K : PySem.W.Frag) (M : Addr → Prop) (H : Hp) (M' : Addr → Prop) (H' : Hp) (v : V) (r : RV) : Prop where
  step : Step M Nil H M' H'
  mok : ∀ p, M' p → H' p ≠ none
  res : match r with
    | .d x => Rep K M' H' v x
    | .n x => ∃ p, v = .ref p ∧ H p = none ∧ M' p ∧ Own K M' H' p x
    | .o _ => False
section
variable {K : PySem.W.Frag} {p0 : Amb} {M0 M M1 : Addr → Prop} {σ : L2.St} {H0 H H1 : Hp} {ρ0 ρ : Ev} {v : V} {r : RV}
theorem ResOk.same (mok : ∀ p, M p → H p ≠ none) {x : D} (h : Rep K M H v x) : ResOk K M H M H v (.d x) := ⟨Step.refl, mok, h⟩
theorem ResOk.fin (S0 : Sim K p0 M0 σ H0 ρ0) (a : Post K p0 M0 σ H0 ρ0 M σ H ρ) (h : ResOk K M H M1 H1 v r) : Post K p0 M0 σ H0 ρ0 M1 σ H1 ρ ∧ RVok K M1 σ ρ H0 H1 v r := by
  have b := a.sim.post h.step h.mok
  refine ⟨a.trans S0 b, ?_⟩
  cases r with
  | d x => exact h.res
  | n x =>
    obtain ⟨p, e, f, m, o⟩ := h.res
    refine ⟨p, e, m, fun z => ?_, dom_back a.step.dom f, o⟩
    exact a.sim.mok p (a.sim.hot z) f
  | o i => exact h.res.elim
theorem rep_new (mok : ∀ p, M p → H p ≠ none) {p : Addr} {o : HO} (hp : H p = none) : Step M Nil H M (upd H p o) ∧ (∀ q, M q → upd H p o q ≠ none) ∧ ¬ M p := by
  refine ⟨⟨fun a u h _ _ => by rw [upd_ne (ne_of_none h hp)]; exact ⟨.inl ((upd_ne (ne_of_none h hp)).trans h), fun _ => h⟩, fun a h => .inl h, fun a h _ => h, fun a h => ?_, fun a xs h => (upd_ne (ne_of_none h hp)).trans h, tab_upd fun ps z => by rw [hp] at z; cases z⟩, fun q h => ?_, fun h => mok p h hp⟩
  · by_cases e : a = p
    · rw [e, upd_same]; exact fun z => nomatch z
    · rw [upd_ne e]; exact h
  · by_cases e : q = p
    · rw [e, upd_same]; exact fun z => nomatch z
    · rw [upd_ne e]; exact mok q h
/-- a new tuple -/
theorem ResOk.tup (mok : ∀ p, M p → H p ≠ none) {p : Addr} {xs : List V} {ds : List D} (hp : H p = none) (r : RepL K M H xs ds) : ResOk K M H M (upd H p (.tup xs)) (.ref p) (.d (.tup ds)) := by
  obtain ⟨s, m, n⟩ := rep_new (o := .tup xs) mok hp
  exact ⟨s, m, .tup upd_same (r.keep (s.keep fun _ z => z.elim))⟩
/-- a new list of one's own -/
theorem ResOk.lst (mok : ∀ p, M p → H p ≠ none) {p : Addr} {xs : List V} {ds : List D} (hp : H p = none) (r : RepL K M H xs ds) : ResOk K M H (fun a => M a ∨ a = p) (upd H p (.lst xs)) (.ref p) (.n (.lst ds)) := by
  obtain ⟨s, m, n⟩ := rep_new (o := .lst xs) mok hp
  have s' : Step M Nil H (fun a => M a ∨ a = p) (upd H p (.lst xs)) := ⟨s.fr, fun a h => h.elim .inl fun e => .inr (e ▸ hp), fun a h _ => .inl h, s.dom, s.tp, s.tb⟩
  refine ⟨s', fun q h => ?_, ⟨p, rfl, hp, .inr rfl, xs, upd_same, r.keep (s'.keep fun _ z => z.elim)⟩⟩
  rcases h with h | h
  · exact m q h
  · rw [h, upd_same]; exact fun z => nomatch z
theorem ResOk.dic (mok : ∀ p, M p → H p ≠ none) {p : Addr} {xs : List (Key × V)} {ds : List (Key × D)} (hp : H p = none) (r : RepK K M H xs ds) : ResOk K M H (fun a => M a ∨ a = p) (upd H p (.dK xs)) (.ref p) (.n (.dic ds)) := by
  obtain ⟨s, m, n⟩ := rep_new (o := .dK xs) mok hp
  have s' : Step M Nil H (fun a => M a ∨ a = p) (upd H p (.dK xs)) := ⟨s.fr, fun a h => h.elim .inl fun e => .inr (e ▸ hp), fun a h _ => .inl h, s.dom, s.tp, s.tb⟩
  refine ⟨s', fun q h => ?_, ⟨p, rfl, hp, .inr rfl, xs, upd_same, r.keep (s'.keep fun _ z => z.elim)⟩⟩
  rcases h with h | h
  · exact m q h
  · rw [h, upd_same]; exact fun z => nomatch z
end

theorem RVok.dd {K : PySem.W.Frag} {M : Addr → Prop} {σ : L2.St} {ρ : Ev} {H0 H : Hp} {v : V} {x : D} (h : Rep K M H v x) : RVok K M σ ρ H0 H v (.d x) := h
/-! ### names, constants -/
def tK (x : D) : ET := fun ρ q _ => q (.d x) ρ
theorem de_k {X : Cx} {p : Amb} {W : WX} {e : Expr} {v : V} {x : D} (h : PE X e (tC v)) (r : ∀ M H, Rep X.K M H v x) : DE X p W e (tK x) := ⟨PE.imp h fun σ H Q ⟨M, ρ, q, xq, S, ht, hq, _⟩ =>
  hq v M H ρ _ (Post.refl S) (Slots.refl ρ) (RVok.dd (r M H)) ht⟩
section
variable {X : Cx} {p : Amb} {W : WX} {pos : Pos} {j : Nat}
theorem de_int {i : Int} : DE X p W (.Constant (.int i) j pos) (tK (.int i)) := de_k pe_int fun _ _ => .int i
theorem de_bl {b : Bool} : DE X p W (.Constant (.bool b) j pos) (tK (.bl b)) := de_k pe_bl fun _ _ => .bl b
theorem de_non : DE X p W (.Constant .none j pos) (tK .non) := de_k pe_non fun _ _ => .non
theorem de_str {x : Str} : DE X p W (.Constant (.str x) j pos) (tK (.str x)) := de_k pe_str fun _ _ => .str x
theorem de_gint {x : Str} {i : Int} {t : Tok} (hg : Gl X x) (hm : X.mg x = some (.int i t)) (hd : (x == ("__debug__" : Str)) = false := by decide) : DE X p W (.Name x pos) (tK (.int i)) := de_k (pe_glob hg hm (v := .int i) ⟨t, rfl⟩ hd) fun _ _ => .int i
end
def slR (i : Nat) : Option Sl → Option RV
  | some (.va x) => some (.d x)
  | some (.ow _) => some (.o i)
  | some (.io _) => some (.o i)
  | _ => none
/-- a predicate of a result that may lack -/
def some! {α : Type} (o : Option α) (q : α → Prop) : Prop := match o with
  | some a => q a
  | none => False
theorem some!_ok {α : Type} {o : Option α} {q : α → Prop} (h : some! o q) : ∃ a, o = some a ∧ q a := by
  cases o with
  | none => exact h.elim
  | some a => exact ⟨a, rfl, h⟩
def tV (i : Nat) : ET := fun ρ q _ => some! (slR i ρ[i]?) fun r => q r ρ
theorem var_ok {K : PySem.W.Frag} {p0 : Amb} {M : Addr → Prop} {σ : L2.St} {H : Hp} {ρ : Ev} {i : Nat} {r : RV} (S : Sim K p0 M σ H ρ) (h : slR i ρ[i]? = some r) : ∃ v, σ[i]? = some (some v) ∧ RVok K M σ ρ H H v r := by
  cases e : ρ[i]? with
  | none => rw [e] at h; cases h
  | some s =>
    rw [e] at h
    cases s with
    | no => cases h
    | va x =>
      cases h
      obtain ⟨v, e2, r⟩ := S.va i x e
      exact ⟨v, e2, r⟩
    | ow x =>
      cases h
      obtain ⟨q, e2, _⟩ := S.ow i x e
      exact ⟨_, e2, e2, trivial⟩
    | io x =>
      cases h
      obtain ⟨q, e2, _⟩ := S.io i x e
      exact ⟨_, e2, e2, trivial⟩
theorem de_v (i : Nat) {X : Cx} {p : Amb} {W : WX} {x : Str} {pos : Pos} (hN : X.N[i]? = some x := by rfl) (hv : Vis X.env.scope x := by first | exact Or.inl rfl | exact Or.inr (Or.inl rfl) | exact Or.inr (Or.inr rfl)) (hd : (x == ("__debug__" : Str)) = false := by decide)
    (hcd : (x == ("__classdict__" : Str)) = false := by decide) : DE X p W (.Name x pos) (tV i) := ⟨PE.imp (pe_var hN hv hd hcd) fun σ H Q ⟨M, ρ, q, xq, S, ht, hq, _⟩ => by
  obtain ⟨r, e, h⟩ := some!_ok ht
  obtain ⟨v, e2, ok⟩ := var_ok S e
  exact ⟨v, e2, hq v M H ρ r (Post.refl S) (Slots.refl ρ) ok h⟩⟩

/-! ### operations -/
def f2 (f : D → D → (RV → Prop) → Prop) (a b : Option D) (q : RV → Prop) : Prop := match a, b with
  | some x, some y => f x y q
  | _, _ => False
theorem f2_ok {f : D → D → (RV → Prop) → Prop} {a b : Option D} {q : RV → Prop} (h : f2 f a b q) : ∃ x y, a = some x ∧ b = some y ∧ f x y q := by
  cases a with
  | none => exact h.elim
  | some x =>
    cases b with
    | none => exact h.elim
    | some y => exact ⟨x, y, rfl, rfl, h⟩
/-- the operation r on values does on data what f says -/
def R2D (K : PySem.W.Frag) (r : R2) (f : D → D → (RV → Prop) → Prop) : Prop := ∀ (M : Addr → Prop) (H : Hp) (x y : V) (a b : D) (Q : VK) (q : RV → Prop), (∀ p, M p → H p ≠ none) → RepC K M H x a → RepC K M H y b → f a b q →
  (∀ v M' H' z, ResOk K M H M' H' v z → q z → Q v H') → r x y H Q
/-- one behind the other, then the operation -/
def t2 (f : D → D → (RV → Prop) → Prop) (ta tb : ET) : ET := fun ρ q x => ta ρ (fun r ρ1 => tb ρ1 (fun s ρ2 => f2 f (rd ρ2 r) (rd ρ2 s) fun z => q z ρ2) x) x
section
variable {X : Cx} {p : Amb} {W : WX} {a b c : Expr} {ta tb tc : ET} {pos : Pos}
theorem t2_ok {r : R2} {f : D → D → (RV → Prop) → Prop} (hr : R2D X.K r f) {σ : L2.St} {H : Hp} {Q : VK} (h : lift X.K p W (t2 f ta tb) σ H Q) : tOp r (lift X.K p W ta) (lift X.K p W tb) σ H Q := by
  obtain ⟨M, ρ, q, xq, S, ht, hq, hx⟩ := h
  refine ⟨M, ρ, _, _, S, ht, fun v M1 H1 ρ1 r1 P1 S1 R1 h1 => ?_, hx⟩
  refine ⟨M1, ρ1, _, _, P1.sim, h1, fun u M2 H2 ρ2 r2 P2 S2 R2 h2 => ?_, fun c M2 H2 ρ2 P2 h2 => hx c M2 H2 ρ2 (P1.trans S P2) h2⟩
  obtain ⟨x, y, e1, e2, h3⟩ := f2_ok h2
  have c1 := rd_ok P2.sim (R1.post P1.sim P2 S2) e1
  have c2 := rd_ok P2.sim R2 e2
  refine hr M2 H2 v u x y Q _ P2.sim.mok c1 c2 h3 fun w M3 H3 z ok hz => ?_
  obtain ⟨P3, R3⟩ := ok.fin S (P1.trans S P2)
  exact hq w M3 H3 ρ2 z P3 (S1.trans S2) R3 hz
theorem de_op {op : Operator} {r : R2} {f : D → D → (RV → Prop) → Prop} (ho : OpR X (binaryOp op) r) (hr : R2D X.K r f) (ha : DE X p W a ta) (hb : DE X p W b tb) : DE X p W (.BinOp a op b pos) (t2 f ta tb) :=
  ⟨PE.imp (pe_op ho ha.pe hb.pe) fun _ _ _ h => t2_ok hr h⟩
theorem de_cmp {op : CmpOp} {r : R2} {f : D → D → (RV → Prop) → Prop} (ho : OpR X (compareOp op) r) (hr : R2D X.K r f) (ha : DE X p W a ta) (hb : DE X p W b tb) (hm : behindInMarks op b = false) : DE X p W (.Compare a [op] [b] pos) (t2 f ta tb) :=
  ⟨PE.imp (pe_cmpR ho ha.pe hb.pe hm) fun _ _ _ h => t2_ok hr h⟩
/-- the truth value of a result -/
def blR : RV → Option Bool
  | .d (.bl b) => some b
  | _ => none
theorem blR_ok {K : PySem.W.Frag} {M : Addr → Prop} {σ : L2.St} {ρ : Ev} {H0 H : Hp} {v : V} {r : RV} {b : Bool} (h : blR r = some b) (R : RVok K M σ ρ H0 H v r) : v = .bl b := by
  cases r with
  | d x =>
    cases x with
    | bl c =>
      cases h
      cases R with
      | bl _ => rfl
    | _ => cases h
  | _ => cases h
def tT (t : ET) : BT := fun ρ q x => t ρ (fun r ρ1 => some! (blR r) fun b => q b ρ1) x
theorem tT_ok {t : ET} {σ : L2.St} {H : Hp} {Q : Bool → Hp → Prop} (h : liftB X.K p W (tT t) σ H Q) : lift X.K p W t σ H fun v H1 => ∃ b, v = .bl b ∧ Q b H1 := by
  obtain ⟨M, ρ, q, xq, S, ht, hq, hx⟩ := h
  refine ⟨M, ρ, _, _, S, ht, fun v M1 H1 ρ1 r1 P1 S1 R1 h1 => ?_, hx⟩
  obtain ⟨b, e, h2⟩ := some!_ok h1
  exact ⟨b, blR_ok e R1, hq b M1 H1 ρ1 P1 S1 h2⟩
/-- a comparison as a test -/
theorem db_cmp {op : CmpOp} {r : R2} {f : D → D → (RV → Prop) → Prop} (ho : OpR X (compareOp op) r) (hr : R2D X.K r f) (ha : DE X p W a ta) (hb : DE X p W b tb) (hm : behindInMarks op b = false) : DB X p W (.Compare a [op] [b] pos) (tT (t2 f ta tb)) :=
  ⟨PT.imp (pt_cmpR ho ha.pe hb.pe hm) fun σ H Q h => by
    have h1 := tT_ok h
    exact t2_ok hr h1⟩
/-- an expression whose value is a truth value, as a test -/
theorem db_val {t : ET} (h : DE X p W a t) (he : ∀ whole, isTrue a X.env whole = (do let v ← whole; standAt a.pos; holding [v] (truthy v)) := by intro _; rfl) : DB X p W a (tT t) :=
  ⟨PT.imp (pt_val h.pe he) fun σ H Q h => tT_ok h⟩
/-- a chain a < b < c -/
def tCh (f g : D → D → (RV → Prop) → Prop) (ta tb tc : ET) : ET := fun ρ q x => ta ρ (fun r ρ1 => tb ρ1 (fun s ρ2 => f2 f (rd ρ2 r) (rd ρ2 s) fun z => some! (blR z) fun k =>
  if k = true then tc ρ2 (fun u ρ3 => f2 g (rd ρ3 s) (rd ρ3 u) fun z2 => q z2 ρ3) x else q (.d (.bl false)) ρ2) x) x
theorem tCh_ok {r r' : R2} {f g : D → D → (RV → Prop) → Prop} (hr : R2D X.K r f) (hr' : R2D X.K r' g) {σ : L2.St} {H : Hp} {Q : VK} (h : lift X.K p W (tCh f g ta tb tc) σ H Q) : tChain r r' (lift X.K p W ta) (lift X.K p W tb) (lift X.K p W tc) σ H Q := by
  obtain ⟨M, ρ, q, xq, S, ht, hq, hx⟩ := h
  refine ⟨M, ρ, _, _, S, ht, fun v M1 H1 ρ1 r1 P1 S1 R1 h1 => ?_, hx⟩
  refine ⟨M1, ρ1, _, _, P1.sim, h1, fun u M2 H2 ρ2 r2 P2 S2 R2 h2 => ?_, fun c M2 H2 ρ2 P2 h2 => hx c M2 H2 ρ2 (P1.trans S P2) h2⟩
  obtain ⟨x, y, e1, e2, h3⟩ := f2_ok h2
  have c1 := rd_ok P2.sim (R1.post P1.sim P2 S2) e1
  have c2 := rd_ok P2.sim R2 e2
  refine hr M2 H2 v u x y _ _ P2.sim.mok c1 c2 h3 fun w M3 H3 z ok hz => ?_
  obtain ⟨k, e3, h4⟩ := some!_ok hz
  obtain ⟨P3, R3⟩ := ok.fin S (P1.trans S P2)
  refine ⟨k, blR_ok e3 R3, ?_⟩
  have Q3 := P2.sim.post ok.step ok.mok
  cases k with
  | false =>
    rw [if_neg Bool.false_ne_true] at h4 ⊢
    exact hq _ M3 H3 ρ2 _ P3 (S1.trans S2) (RVok.dd (.bl false)) h4
  | true =>
    rw [if_pos rfl] at h4 ⊢
    refine ⟨M3, ρ2, _, _, P3.sim, h4, fun w2 M4 H4 ρ4 r4 P4 S4 R4 h5 => ?_, fun c M4 H4 ρ4 P4 h5 => hx c M4 H4 ρ4 (P3.trans S P4) h5⟩
    obtain ⟨x2, y2, e4, e5, h6⟩ := f2_ok h5
    have d1 := rd_ok P4.sim ((R2.post P2.sim Q3 (Slots.refl _)).post P3.sim P4 S4) e4
    have d2 := rd_ok P4.sim R4 e5
    refine hr' M4 H4 u w2 x2 y2 _ _ P4.sim.mok d1 d2 h6 fun w5 M5 H5 z5 ok5 hz5 => ?_
    obtain ⟨P5, R5⟩ := ok5.fin S (P3.trans S P4)
    exact hq w5 M5 H5 ρ4 z5 P5 ((S1.trans S2).trans S4) R5 hz5
theorem de_chain {op op' : CmpOp} {r r' : R2} {f g : D → D → (RV → Prop) → Prop} (ho : OpR X (compareOp op) r) (hr : R2D X.K r f) (ho' : OpR X (compareOp op') r') (hr' : R2D X.K r' g) (ha : DE X p W a ta) (hb : DE X p W b tb) (hc : DE X p W c tc)
    (hm : lastMarks [op, op'] [b, c] = false := by with_unfolding_all rfl) : DE X p W (.Compare a [op, op'] [b, c] pos) (tCh f g ta tb tc) :=
  ⟨PE.imp (pe_chain ho ho' ha.pe hb.pe hc.pe hm) fun _ _ _ h => tCh_ok hr hr' h⟩
theorem db_chain {op op' : CmpOp} {r r' : R2} {f g : D → D → (RV → Prop) → Prop} (ho : OpR X (compareOp op) r) (hr : R2D X.K r f) (ho' : OpR X (compareOp op') r') (hr' : R2D X.K r' g) (ha : DE X p W a ta) (hb : DE X p W b tb) (hc : DE X p W c tc)
    (hm : lastMarks [op, op'] [b, c] = false := by with_unfolding_all rfl) : DB X p W (.Compare a [op, op'] [b, c] pos) (tT (tCh f g ta tb tc)) :=
  ⟨PT.imp (pt_chain ho ho' ha.pe hb.pe hc.pe hm) fun _ _ _ h => tCh_ok hr hr' (tT_ok h)⟩

/-! ### and, or, not, if -/
variable {ua ub : BT} {rest : List Expr}
def bAnd (ta tb : BT) : BT := fun ρ q x => ta ρ (fun k ρ1 => if k = true then tb ρ1 q x else q false ρ1) x
def bOr (ta tb : BT) : BT := fun ρ q x => ta ρ (fun k ρ1 => if k = true then q true ρ1 else tb ρ1 q x) x
def bNot (ta : BT) : BT := fun ρ q x => ta ρ (fun k ρ1 => q (!k) ρ1) x
theorem bnext {σ : L2.St} {H : Hp} {Q : Bool → Hp → Prop} {M : Addr → Prop} {ρ : Ev} {q : Bool → Ev → Prop} {x : XQ} (S : Sim X.K p M σ H ρ)
    (hq : ∀ b M' H' ρ', Post X.K p M σ H ρ M' σ H' ρ' → Slots ρ ρ' → q b ρ' → Q b H') (hx : ∀ c M' H' ρ', Post X.K p M σ H ρ M' σ H' ρ' → x c ρ' → W (.ref c) none σ H')
    {M1 : Addr → Prop} {H1 : Hp} {ρ1 : Ev} (P1 : Post X.K p M σ H ρ M1 σ H1 ρ1) (S1 : Slots ρ ρ1) {t : BT} (h : t ρ1 q x) : liftB X.K p W t σ H1 Q :=
  ⟨M1, ρ1, q, x, P1.sim, h, fun b M2 H2 ρ2 P2 S2 h2 => hq b M2 H2 ρ2 (P1.trans S P2) (S1.trans S2) h2, fun c M2 H2 ρ2 P2 h2 => hx c M2 H2 ρ2 (P1.trans S P2) h2⟩
theorem db_and1 (ha : DB X p W a ua) : DB X p W (.BoolOp .And [a] pos) ua := ⟨(pw_and1 ha.pt).pt⟩
theorem db_or1 (ha : DB X p W a ua) : DB X p W (.BoolOp .Or [a] pos) ua := ⟨(pw_or1 ha.pt).pt⟩
structure DW (X : Cx) (p0 : Amb) (W : WX) (e : Expr) (t : BT) : Prop where
  pw : PW X e (liftB X.K p0 W t)
theorem PW.imp {X : Cx} {e : Expr} {t u : TT} (h : PW X e t) (i : ∀ σ H Q, u σ H Q → t σ H Q) : PW X e u := ⟨fun wh pins s σ H Q I hu => h.run wh pins s σ H Q I (i σ H Q hu)⟩
theorem DW.toB {e : Expr} (h : DW X p W e ua) : DB X p W e ua := ⟨h.pw.pt⟩
theorem dw_and1 (ha : DB X p W a ua) : DW X p W (.BoolOp .And [a] pos) ua := ⟨pw_and1 ha.pt⟩
theorem dw_or1 (ha : DB X p W a ua) : DW X p W (.BoolOp .Or [a] pos) ua := ⟨pw_or1 ha.pt⟩
theorem dw_and (ha : DB X p W a ua) (hb : DW X p W (.BoolOp .And (b :: rest) pos) ub) : DW X p W (.BoolOp .And (a :: b :: rest) pos) (bAnd ua ub) :=
  ⟨PW.imp (pw_and ha.pt hb.pw) fun σ H Q ⟨M, ρ, q, xq, S, ht, hq, hx⟩ => by
    refine ⟨M, ρ, _, _, S, ht, fun k M1 H1 ρ1 P1 S1 h1 => ?_, hx⟩
    cases k with
    | true =>
      rw [if_pos rfl] at h1 ⊢
      exact bnext S hq hx P1 S1 h1
    | false =>
      rw [if_neg Bool.false_ne_true] at h1 ⊢
      exact hq false M1 H1 ρ1 P1 S1 h1⟩
theorem dw_or (ha : DB X p W a ua) (hb : DW X p W (.BoolOp .Or (b :: rest) pos) ub) : DW X p W (.BoolOp .Or (a :: b :: rest) pos) (bOr ua ub) :=
  ⟨PW.imp (pw_or ha.pt hb.pw) fun σ H Q ⟨M, ρ, q, xq, S, ht, hq, hx⟩ => by
    refine ⟨M, ρ, _, _, S, ht, fun k M1 H1 ρ1 P1 S1 h1 => ?_, hx⟩
    cases k with
    | true =>
      rw [if_pos rfl] at h1 ⊢
      exact hq true M1 H1 ρ1 P1 S1 h1
    | false =>
      rw [if_neg Bool.false_ne_true] at h1 ⊢
      exact bnext S hq hx P1 S1 h1⟩
theorem db_not (ha : DB X p W a ua) : DB X p W (.UnaryOp .Not a pos) (bNot ua) :=
  ⟨PT.imp (pt_not ha.pt) fun σ H Q ⟨M, ρ, q, xq, S, ht, hq, hx⟩ => ⟨M, ρ, _, _, S, ht, fun k M1 H1 ρ1 P1 S1 h1 => hq (!k) M1 H1 ρ1 P1 S1 h1, hx⟩⟩
/-- .. as values: all parts truth values -/
def tAnd' (ta tb : ET) : ET := fun ρ q x => ta ρ (fun r ρ1 => some! (blR r) fun k => if k = true then tb ρ1 q x else q (.d (.bl false)) ρ1) x
def tOr' (ta tb : ET) : ET := fun ρ q x => ta ρ (fun r ρ1 => some! (blR r) fun k => if k = true then q (.d (.bl true)) ρ1 else tb ρ1 q x) x
def tNot' (ta : ET) : ET := fun ρ q x => ta ρ (fun r ρ1 => some! (blR r) fun k => q (.d (.bl (!k))) ρ1) x
theorem enext {σ : L2.St} {H : Hp} {Q : VK} {M : Addr → Prop} {ρ : Ev} {q : EK} {x : XQ} (S : Sim X.K p M σ H ρ)
    (hq : ∀ v M' H' ρ' r, Post X.K p M σ H ρ M' σ H' ρ' → Slots ρ ρ' → RVok X.K M' σ ρ' H H' v r → q r ρ' → Q v H') (hx : ∀ c M' H' ρ', Post X.K p M σ H ρ M' σ H' ρ' → x c ρ' → W (.ref c) none σ H')
    {M1 : Addr → Prop} {H1 : Hp} {ρ1 : Ev} (P1 : Post X.K p M σ H ρ M1 σ H1 ρ1) (S1 : Slots ρ ρ1) {t : ET} (h : t ρ1 q x) : lift X.K p W t σ H1 Q :=
  ⟨M1, ρ1, q, x, P1.sim, h, fun v M2 H2 ρ2 r P2 S2 R2 h2 => hq v M2 H2 ρ2 r (P1.trans S P2) (S1.trans S2) (R2.back P1.step.dom) h2, fun c M2 H2 ρ2 P2 h2 => hx c M2 H2 ρ2 (P1.trans S P2) h2⟩
theorem de_one {op : BoolOp} {t : ET} (h : DE X p W a t) : DE X p W (.BoolOp op [a] pos) t := ⟨pe_one h.pe⟩
theorem de_and (ha : DE X p W a ta) (hb : DE X p W (.BoolOp .And (b :: rest) pos) tb) : DE X p W (.BoolOp .And (a :: b :: rest) pos) (tAnd' ta tb) :=
  ⟨PE.imp (pe_and ha.pe hb.pe) fun σ H Q ⟨M, ρ, q, xq, S, ht, hq, hx⟩ => by
    refine ⟨M, ρ, _, _, S, ht, fun v M1 H1 ρ1 r1 P1 S1 R1 h1 => ?_, hx⟩
    obtain ⟨k, e, h2⟩ := some!_ok h1
    refine ⟨k, blR_ok e R1, ?_⟩
    cases k with
    | true =>
      rw [if_pos rfl] at h2 ⊢
      exact enext S hq hx P1 S1 h2
    | false =>
      rw [if_neg Bool.false_ne_true] at h2 ⊢
      exact hq _ M1 H1 ρ1 _ P1 S1 (RVok.dd (.bl false)) h2⟩
theorem de_or (ha : DE X p W a ta) (hb : DE X p W (.BoolOp .Or (b :: rest) pos) tb) : DE X p W (.BoolOp .Or (a :: b :: rest) pos) (tOr' ta tb) :=
  ⟨PE.imp (pe_or ha.pe hb.pe) fun σ H Q ⟨M, ρ, q, xq, S, ht, hq, hx⟩ => by
    refine ⟨M, ρ, _, _, S, ht, fun v M1 H1 ρ1 r1 P1 S1 R1 h1 => ?_, hx⟩
    obtain ⟨k, e, h2⟩ := some!_ok h1
    refine ⟨k, blR_ok e R1, ?_⟩
    cases k with
    | true =>
      rw [if_pos rfl] at h2 ⊢
      exact hq _ M1 H1 ρ1 _ P1 S1 (RVok.dd (.bl true)) h2
    | false =>
      rw [if_neg Bool.false_ne_true] at h2 ⊢
      exact enext S hq hx P1 S1 h2⟩
theorem de_not (ha : DE X p W a ta) : DE X p W (.UnaryOp .Not a pos) (tNot' ta) :=
  ⟨PE.imp (pe_not ha.pe) fun σ H Q ⟨M, ρ, q, xq, S, ht, hq, hx⟩ => by
    refine ⟨M, ρ, _, _, S, ht, fun v M1 H1 ρ1 r1 P1 S1 R1 h1 => ?_, hx⟩
    obtain ⟨k, e, h2⟩ := some!_ok h1
    exact ⟨k, blR_ok e R1, hq _ M1 H1 ρ1 _ P1 S1 (RVok.dd (.bl _)) h2⟩⟩
def tIf' (tc : BT) (ta tb : ET) : ET := fun ρ q x => tc ρ (fun k ρ1 => if k = true then ta ρ1 q x else tb ρ1 q x) x
theorem de_if (hc : DB X p W c ua) (ha : DE X p W a ta) (hb : DE X p W b tb) : DE X p W (.IfExp c a b pos) (tIf' ua ta tb) :=
  ⟨PE.imp (pe_ifExp hc.pt ha.pe hb.pe) fun σ H Q ⟨M, ρ, q, xq, S, ht, hq, hx⟩ => by
    refine ⟨M, ρ, _, _, S, ht, fun k M1 H1 ρ1 P1 S1 h1 => ?_, hx⟩
    cases k with
    | true =>
      rw [if_pos rfl] at h1 ⊢
      exact enext S hq hx P1 S1 h1
    | false =>
      rw [if_neg Bool.false_ne_true] at h1 ⊢
      exact enext S hq hx P1 S1 h1⟩
end
end DL

set_option Elab.async false
set_option linter.all false
set_option maxRecDepth 100000
set_option maxHeartbeats 4000000
namespace DL
open PySem PySem.Spec PyProof.Rows L2

section
variable {K : PySem.W.Frag} {M : Addr → Prop} {H : Hp} {v : V}
theorem RepC.int {i : Int} (h : RepC K M H v (.int i)) : v = .int i := by
  rcases h with h | ⟨p, _, h⟩
  · cases h with | int _ => rfl
  · exact h.elim
theorem RepC.bl {b : Bool} (h : RepC K M H v (.bl b)) : v = .bl b := by
  rcases h with h | ⟨p, _, h⟩
  · cases h with | bl _ => rfl
  · exact h.elim
theorem RepC.str {x : Str} (h : RepC K M H v (.str x)) : v = .str x := by
  rcases h with h | ⟨p, _, h⟩
  · cases h with | str _ => rfl
  · exact h.elim
theorem RepC.non (h : RepC K M H v .non) : v = .non := by
  rcases h with h | ⟨p, _, h⟩
  · cases h with | non => rfl
  · exact h.elim
theorem RepC.tup {ds : List D} (h : RepC K M H v (.tup ds)) : ∃ a xs, v = .ref a ∧ SqTM K M H a xs ∧ RepL K M H xs ds := by
  rcases h with h | ⟨p, _, h⟩
  · cases h with | tup h r => exact ⟨_, _, rfl, h, r⟩
  · exact h.elim
theorem RepC.st {ds : List D} (h : RepC K M H v (.st ds)) : ∃ a xs, v = .ref a ∧ SqTS K a xs ∧ RepL K M H xs ds := by
  rcases h with h | ⟨p, _, h⟩
  · cases h with | st h r => exact ⟨_, _, rfl, h, r⟩
  · exact h.elim
theorem RepC.lst {ds : List D} (h : RepC K M H v (.lst ds)) : ∃ a xs, v = .ref a ∧ H a = some (.lst xs) ∧ RepL K M H xs ds := by
  rcases h with h | ⟨p, rfl, h⟩
  · cases h with | lst h n r => exact ⟨_, _, rfl, h, r⟩
  · obtain ⟨xs, e, r⟩ := h
    exact ⟨p, xs, rfl, e, r⟩
theorem RepC.fz {ds : List D} (h : RepC K M H v (.fz ds)) : ∃ a xs, v = .ref a ∧ SqLM K M H a xs ∧ RepL K M H xs ds := by
  rcases h with h | ⟨p, _, h⟩
  · cases h with | fz h r => exact ⟨_, _, rfl, h, r⟩
  · exact h.elim
theorem RepC.dic {ds : List (Key × D)} (h : RepC K M H v (.dic ds)) : ∃ a xs, v = .ref a ∧ Rd H a (.dK xs) ∧ RepK K M H xs ds := by
  rcases h with h | ⟨p, rfl, h⟩
  · cases h with | dic h n r => exact ⟨_, _, rfl, h, r⟩
  · obtain ⟨xs, e, r⟩ := h
    exact ⟨p, xs, rfl, .inl e, r⟩
theorem RepC.dit {ds : List (List Key × D)} (h : RepC K M H v (.dit ds)) : ∃ a xs, v = .ref a ∧ Rd H a (.dT xs) ∧ RepT K M H xs ds := by
  rcases h with h | ⟨p, rfl, h⟩
  · cases h with | dit h n r => exact ⟨_, _, rfl, h, r⟩
  · obtain ⟨xs, e, r⟩ := h
    exact ⟨p, xs, rfl, .inl e, r⟩
theorem RepC.op {u : V} (h : RepC K M H v (.op u)) : v = u := by
  rcases h with h | ⟨p, _, h⟩
  · cases h with | op _ => rfl
  · exact h.elim
end

/-! ### arithmetic -/
def fI (C : Int → Int → Prop) (g : Int → Int → D) : D → D → (RV → Prop) → Prop := fun a b q => match a, b with
  | .int i, .int j => C i j ∧ q (.d (g i j))
  | _, _ => False
def fI0 (g : Int → Int → D) : D → D → (RV → Prop) → Prop := fun a b q => match a, b with
  | .int i, .int j => q (.d (g i j))
  | _, _ => False
theorem rI_ok {K : PySem.W.Frag} {C : Int → Int → Prop} {g : Int → Int → V} {g' : Int → Int → D} (hg : ∀ i j M H, Rep K M H (g i j) (g' i j)) : R2D K (rI C g) (fI C g') := by
  intro M H x y a b Q q mok ra rb h k
  cases a <;> cases b <;> first
    | exact h.elim
    | (obtain ⟨hc, h⟩ := h
       exact ⟨_, _, ra.int, rb.int, hc, k _ M H _ (ResOk.same mok (hg _ _ M H)) h⟩)
theorem rI0_ok {K : PySem.W.Frag} {g : Int → Int → V} {g' : Int → Int → D} (hg : ∀ i j M H, Rep K M H (g i j) (g' i j)) : R2D K (rI0 g) (fI0 g') := by
  intro M H x y a b Q q mok ra rb h k
  cases a <;> cases b <;> first
    | exact h.elim
    | exact ⟨_, _, ra.int, rb.int, k _ M H _ (ResOk.same mok (hg _ _ M H)) h⟩
theorem R2D.or1 {K : PySem.W.Frag} {r r' : R2} {f : D → D → (RV → Prop) → Prop} (h : R2D K r f) : R2D K (fun x y H Q => r x y H Q ∨ r' x y H Q) f := fun M H x y a b Q q mok ra rb hf k => .inl (h M H x y a b Q q mok ra rb hf k)
theorem R2D.or2 {K : PySem.W.Frag} {r r' : R2} {f : D → D → (RV → Prop) → Prop} (h : R2D K r' f) : R2D K (fun x y H Q => r x y H Q ∨ r' x y H Q) f := fun M H x y a b Q q mok ra rb hf k => .inr (h M H x y a b Q q mok ra rb hf k)
/-- a + b -/
def fAdd : D → D → (RV → Prop) → Prop := fun a b q => match a, b with
  | .int i, .int j => q (.d (.int (i + j)))
  | .str x, .str y => x.length + y.length ≤ sizeLine ∧ q (.d (.str (x ++ y)))
  | .lst xs, .lst ys => xs.length + ys.length ≤ sizeLine ∧ q (.n (.lst (xs ++ ys)))
  | .tup xs, .tup ys => xs.length + ys.length ≤ sizeLine ∧ q (.d (.tup (xs ++ ys)))
  | _, _ => False
def rAddA (K : PySem.W.Frag) : R2 := fun x y H Q => rI0 (fun i j => .int (i + j)) x y H Q ∨ (∃ i j, x = .str i ∧ y = .str j ∧ i.length + j.length ≤ sizeLine ∧ Q (.str (i ++ j)) H) ∨ rCat x y H Q ∨ rCatA K x y H Q
theorem op_addA {X : Cx} : OpR X (binaryOp .Add) (rAddA X.K) := op_add.or (op_add_str.or (op_cat.or op_catA))
theorem rAdd_ok {K : PySem.W.Frag} : R2D K (rAddA K) fAdd := by
  intro M H x y a b Q q mok ra rb h k
  cases a with
  | int i =>
    cases b with
    | int j => exact .inl ⟨_, _, ra.int, rb.int, k _ M H _ (ResOk.same mok (.int _)) h⟩
    | _ => exact h.elim
  | str i =>
    cases b with
    | str j => exact .inr (.inl ⟨_, _, ra.str, rb.str, h.1, k _ M H _ (ResOk.same mok (.str _)) h.2⟩)
    | _ => exact h.elim
  | lst ds =>
    cases b with
    | lst es =>
      obtain ⟨p, xs, e1, h1, r1⟩ := ra.lst
      obtain ⟨u, ys, e2, h2, r2⟩ := rb.lst
      refine .inr (.inr (.inl ⟨p, u, xs, ys, e1, e2, h1, h2, by rw [r1.length, r2.length]; exact h.1, fun l hl => k _ _ _ _ (ResOk.lst mok hl (r1.append r2)) h.2⟩))
    | _ => exact h.elim
  | tup ds =>
    cases b with
    | tup es =>
      obtain ⟨p, xs, rfl, h1, r1⟩ := ra.tup
      obtain ⟨u, ys, rfl, h2, r2⟩ := rb.tup
      refine .inr (.inr (.inr ⟨p, u, xs, ys, rfl, rfl, h1.sq, h2.sq, by rw [r1.length, r2.length]; exact h.1, fun e => ?_, fun _ e => ?_, fun _ _ l hl => k _ _ _ _ (ResOk.tup mok hl (r1.append r2)) h.2⟩))
      · subst e
        cases r1
        exact k _ M H _ (ResOk.same mok (.tup h2 r2)) h.2
      · subst e
        cases r2
        have h3 := h.2
        rw [List.append_nil] at h3
        exact k _ M H _ (ResOk.same mok (.tup h1 r1)) h3
    | _ => exact h.elim
  | _ => exact h.elim
/-- a * b -/
def fMul : D → D → (RV → Prop) → Prop := fun a b q => match a, b with
  | .int i, .int j => CMulX i j ∧ q (.d (.int (i * j)))
  | .lst xs, .int k => -(2 ^ 63) ≤ k ∧ k < 2 ^ 63 ∧ xs.length * k.toNat ≤ sizeLine ∧ q (.n (.lst (List.replicate k.toNat xs).flatten))
  | .tup xs, .int k => xs ≠ [] ∧ 2 ≤ k ∧ k ≤ 1000 ∧ xs.length ≤ 1000 ∧ q (.d (.tup (List.replicate k.toNat xs).flatten))
  | _, _ => False
def rMulA (K : PySem.W.Frag) : R2 := fun x y H Q => rI CMulX (fun i j => .int (i * j)) x y H Q ∨ rRep x y H Q ∨ rRepT K x y H Q
theorem op_mulA {X : Cx} : OpR X (binaryOp .Mult) (rMulA X.K) := op_mulX.or (op_rep.or op_repT)
theorem rMul_ok {K : PySem.W.Frag} : R2D K (rMulA K) fMul := by
  intro M H x y a b Q q mok ra rb h k
  cases a with
  | int i =>
    cases b with
    | int j => exact .inl ⟨_, _, ra.int, rb.int, h.1, k _ M H _ (ResOk.same mok (.int _)) h.2⟩
    | _ => exact h.elim
  | lst ds =>
    cases b with
    | int j =>
      obtain ⟨p, xs, e1, h1, r1⟩ := ra.lst
      exact .inr (.inl ⟨p, j, xs, e1, rb.int, h1, h.1, h.2.1, by rw [r1.length]; exact h.2.2.1, fun l hl => k _ _ _ _ (ResOk.lst mok hl (r1.rep _)) h.2.2.2⟩)
    | _ => exact h.elim
  | tup ds =>
    cases b with
    | int j =>
      obtain ⟨p, xs, e1, h1, r1⟩ := ra.tup
      refine .inr (.inr ⟨p, j, xs, e1, rb.int, h1.sq, fun z => h.1 ?_, h.2.1, h.2.2.1, by rw [r1.length]; exact h.2.2.2.1, fun l hl => k _ _ _ _ (ResOk.tup mok hl (r1.rep _)) h.2.2.2.2⟩)
      subst z
      cases r1
      rfl
    | _ => exact h.elim
  | _ => exact h.elim
abbrev fSub := fI0 fun i j => .int (i - j)
abbrev fDiv := fI CDivW fun i j => .int (i / j)
abbrev fMod := fI (fun _ j => 0 < j) fun i j => .int (i % j)
abbrev fPow := fI CPow fun i j => .int (i ^ j.toNat)
abbrev fShl := fI CShl fun i j => .int (i * 2 ^ j.toNat)
abbrev fShr := fI (fun _ j => 0 ≤ j) fun i j => .int (i / 2 ^ j.toNat)
abbrev fAnd := fI0 fun i j => .int (Builtin.bitAnd i j)
abbrev fXor := fI0 fun i j => .int (Builtin.bitXor i j)
abbrev fLt := fI0 fun i j => .bl (decide (i < j))
abbrev fLe := fI0 fun i j => .bl (decide (i ≤ j))
abbrev fGt := fI0 fun i j => .bl (decide (j < i))
abbrev fGe := fI0 fun i j => .bl (decide (j ≤ i))

/-! ### == -/
mutual
def pyD : D → PyData
  | .non => .none
  | .bl b => .bool b
  | .int i => .int i
  | .str x => .str x
  | .tup xs => .tuple (pyDs xs)
  | .st xs => .tuple (pyDs xs)
  | .lst xs => .list (pyDs xs)
  | .fz _ => .dict []
  | .dic _ => .dict []
  | .dit _ => .dict []
  | .op _ => .dict []
def pyDs : List D → List PyData
  | [] => []
  | x :: xs => pyD x :: pyDs xs
end
theorem shaped_dict {kvs : List (PyData × PyData)} (h : (PyData.dict kvs).canLay0 = true) : False := by
  simp [PyData.canLay0] at h
theorem canLay_list {xs : List PyData} (h : (PyData.list xs).canLay0 = true) : PyData.canLayAll0 xs = true := by
  simpa [PyData.canLay0] using h
theorem canLay_tuple {xs : List PyData} (h : (PyData.tuple xs).canLay0 = true) : PyData.canLayAll0 xs = true := by
  simpa [PyData.canLay0] using h
theorem canLay_cons {x : PyData} {xs : List PyData} (h : PyData.canLayAll0 (x :: xs) = true) : x.canLay0 = true ∧ PyData.canLayAll0 xs = true := by
  simpa [PyData.canLayAll0] using h
section
variable {K : PySem.W.Frag} {M : Addr → Prop} {H : Hp}
mutual
theorem dp_of : ∀ {v : V} {d : D}, Rep K M H v d → (pyD d).canLay0 = true → Dp K H v (pyD d)
  | _, _, .non, _ => by unfold pyD; exact .non
  | _, _, .bl b, _ => by unfold pyD; exact .bl b
  | _, _, .int i, _ => by unfold pyD; exact .int i
  | _, _, .str x, _ => by unfold pyD; exact .str x
  | _, _, .op v, h => by unfold pyD at h; exact (shaped_dict h).elim
  | _, _, .tup s r, h => by unfold pyD at h ⊢; exact .tup s.sq (dpL_of r (canLay_tuple h))
  | _, _, .st s r, h => by unfold pyD at h ⊢; exact .tup s.sq (dpL_of r (canLay_tuple h))
  | _, _, .lst s _ r, h => by unfold pyD at h ⊢; exact .lst (SqL.of s) (dpL_of r (canLay_list h))
  | _, _, .fz s r, h => by unfold pyD at h; exact (shaped_dict h).elim
  | _, _, .dic s _ r, h => by unfold pyD at h; exact (shaped_dict h).elim
  | _, _, .dit s _ r, h => by unfold pyD at h; exact (shaped_dict h).elim
theorem dpL_of : ∀ {v : List V} {d : List D}, RepL K M H v d → PyData.canLayAll0 (pyDs d) = true → DpAll K H v (pyDs d)
  | _, _, .nil, _ => by unfold pyDs; exact .nil
  | _, _, .cons h r, c => by unfold pyDs at c ⊢; exact .cons (dp_of h (canLay_cons c).1) (dpL_of r (canLay_cons c).2)
end
theorem dpC_of {v : V} {d : D} (h : RepC K M H v d) (c : (pyD d).canLay0 = true) : Dp K H v (pyD d) := by
  rcases h with h | ⟨p, rfl, h⟩
  · exact dp_of h c
  · cases d with
    | lst ds =>
      obtain ⟨xs, e, r⟩ := h
      unfold pyD at c ⊢
      exact .lst (SqL.of e) (dpL_of r (canLay_list c))
    | dic _ => unfold pyD at c; exact (shaped_dict c).elim
    | dit _ => unfold pyD at c; exact (shaped_dict c).elim
    | _ => exact h.elim
end
/-- data that == takes -/
def shD (d : D) : Prop := SeqAt.shaped (pyD d) = true
def eqD (a b : D) : Bool := PyData.eqv (pyD a) (pyD b)
/-- == of ints, truth values, texts, None at once; of the rest by parts -/
def fEq : D → D → (RV → Prop) → Prop := fun a b q => match a, b with
  | .int i, .int j => q (.d (.bl (decide (i = j))))
  | .non, .non => q (.d (.bl true))
  | .non, .int _ => q (.d (.bl false))
  | .int _, .non => q (.d (.bl false))
  | .bl i, .bl j => q (.d (.bl (decide (i = j))))
  | .int i, .bl j => q (.d (.bl (decide (i = b2i j))))
  | a, b => shD a ∧ shD b ∧ q (.d (.bl (eqD a b)))
def fNe : D → D → (RV → Prop) → Prop := fun a b q => match a, b with
  | .int i, .int j => q (.d (.bl (!decide (i = j))))
  | .non, .non => q (.d (.bl false))
  | .non, .int _ => q (.d (.bl true))
  | .int _, .non => q (.d (.bl true))
  | .bl i, .bl j => q (.d (.bl (!decide (i = j))))
  | .int i, .bl j => q (.d (.bl (!decide (i = b2i j))))
  | a, b => shD a ∧ shD b ∧ q (.d (.bl (!eqD a b)))
theorem sh_int (i : Int) : shD (.int i) := rfl
theorem sh_bl (i : Bool) : shD (.bl i) := rfl
theorem sh_non : shD .non := rfl
theorem eq_int' (i j : Int) : eqD (.int i) (.int j) = decide (i = j) := by
  unfold eqD pyD PyData.eqv
  exact Bool.beq_eq_decide_eq i j
theorem eq_bl' (i j : Bool) : eqD (.bl i) (.bl j) = decide (i = j) := by
  unfold eqD pyD PyData.eqv
  exact Bool.beq_eq_decide_eq i j
theorem eq_ib' (i : Int) (j : Bool) : eqD (.int i) (.bl j) = decide (i = b2i j) := by
  unfold eqD pyD PyData.eqv
  cases j <;> exact Bool.beq_eq_decide_eq i _
theorem fEq_sh {a b : D} {q : RV → Prop} (h : fEq a b q) : shD a ∧ shD b ∧ q (.d (.bl (eqD a b))) := by
  unfold fEq at h
  split at h
  · exact ⟨sh_int _, sh_int _, by rw [eq_int']; exact h⟩
  · exact ⟨sh_non, sh_non, by rw [show eqD .non .non = true from rfl]; exact h⟩
  · exact ⟨sh_non, sh_int _, by rw [show eqD .non (.int _) = false from rfl]; exact h⟩
  · exact ⟨sh_int _, sh_non, by rw [show eqD (.int _) .non = false from rfl]; exact h⟩
  · exact ⟨sh_bl _, sh_bl _, by rw [eq_bl']; exact h⟩
  · exact ⟨sh_int _, sh_bl _, by rw [eq_ib']; exact h⟩
  · exact h
theorem fNe_sh {a b : D} {q : RV → Prop} (h : fNe a b q) : shD a ∧ shD b ∧ q (.d (.bl (!eqD a b))) := by
  unfold fNe at h
  split at h
  · exact ⟨sh_int _, sh_int _, by rw [eq_int']; exact h⟩
  · exact ⟨sh_non, sh_non, by rw [show eqD .non .non = true from rfl]; exact h⟩
  · exact ⟨sh_non, sh_int _, by rw [show eqD .non (.int _) = false from rfl]; exact h⟩
  · exact ⟨sh_int _, sh_non, by rw [show eqD (.int _) .non = false from rfl]; exact h⟩
  · exact ⟨sh_bl _, sh_bl _, by rw [eq_bl']; exact h⟩
  · exact ⟨sh_int _, sh_bl _, by rw [eq_ib']; exact h⟩
  · exact h
theorem rEq_ok {K : PySem.W.Frag} : R2D K (rEqD K) fEq := by
  intro M H x y a b Q q mok ra rb h k
  obtain ⟨h1, h2, h3⟩ := fEq_sh h
  exact ⟨pyD a, pyD b, dpC_of ra (SeqAt.canLay_of_shaped h1), dpC_of rb (SeqAt.canLay_of_shaped h2), h1, h2, k _ M H _ (ResOk.same mok (.bl _)) h3⟩
theorem rNe_ok {K : PySem.W.Frag} : R2D K (rNeD K) fNe := by
  intro M H x y a b Q q mok ra rb h k
  obtain ⟨h1, h2, h3⟩ := fNe_sh h
  exact ⟨pyD a, pyD b, dpC_of ra (SeqAt.canLay_of_shaped h1), dpC_of rb (SeqAt.canLay_of_shaped h2), h1, h2, k _ M H _ (ResOk.same mok (.bl _)) h3⟩
/-- is None, is True -/
def isNon : D → Option Bool
  | .non => some true
  | .op _ => none
  | _ => some false
def fIs (neg : Bool) : D → D → (RV → Prop) → Prop := fun a b q => match b with
  | .non => some! (isNon a) fun k => q (.d (.bl (neg ^^ k)))
  | .bl j => match a with
    | .bl i => q (.d (.bl (neg ^^ decide (i = j))))
    | _ => False
  | _ => False
def rIsA (K : PySem.W.Frag) : R2 := fun x y H Q => (y = .non ∧ Q (.bl (decide (x = .non))) H) ∨ rIsB x y H Q
def rNotA (K : PySem.W.Frag) : R2 := fun x y H Q => (y = .non ∧ Q (.bl (!decide (x = .non))) H) ∨ rNotB x y H Q
theorem op_isA {X : Cx} : OpR X (compareOp .Is) (rIsA X.K) := op_isN.or op_isBl
theorem op_notA {X : Cx} : OpR X (compareOp .IsNot) (rNotA X.K) := op_notN.or op_notBl
theorem isNon_ok {K : PySem.W.Frag} {M : Addr → Prop} {H : Hp} {v : V} {d : D} {b : Bool} (h : RepC K M H v d) (e : isNon d = some b) : decide (v = .non) = b := by
  have z : ∀ {c : Bool}, some c = some b → c = b := fun e => Option.some.inj e
  rcases h with h | ⟨p, rfl, h⟩
  · cases h with
    | op v => exact nomatch (show (none : Option Bool) = some b from e)
    | non => exact (decide_eq_true rfl).trans (z e)
    | _ => exact (decide_eq_false fun z => nomatch z).trans (z e)
  · cases d with
    | lst _ => exact (decide_eq_false fun z => nomatch z).trans (z e)
    | dic _ => exact (decide_eq_false fun z => nomatch z).trans (z e)
    | dit _ => exact (decide_eq_false fun z => nomatch z).trans (z e)
    | _ => exact h.elim
theorem rIs_ok {K : PySem.W.Frag} : R2D K (rIsA K) (fIs false) := by
  intro M H x y a b Q q mok ra rb h k
  cases b with
  | non =>
    obtain ⟨c, e, h⟩ := some!_ok h
    refine .inl ⟨rb.non, ?_⟩
    rw [isNon_ok ra e]
    refine k _ M H _ (ResOk.same mok (.bl _)) ?_
    rw [Bool.false_xor] at h
    exact h
  | bl j =>
    cases a with
    | bl i =>
      refine .inr ⟨i, j, ra.bl, rb.bl, k _ M H _ (ResOk.same mok (.bl _)) ?_⟩
      have h : q (.d (.bl (false ^^ decide (i = j)))) := h
      rw [Bool.false_xor] at h
      exact h
    | _ => exact h.elim
  | _ => exact h.elim
theorem rIsNot_ok {K : PySem.W.Frag} : R2D K (rNotA K) (fIs true) := by
  intro M H x y a b Q q mok ra rb h k
  cases b with
  | non =>
    obtain ⟨c, e, h⟩ := some!_ok h
    refine .inl ⟨rb.non, ?_⟩
    rw [isNon_ok ra e]
    refine k _ M H _ (ResOk.same mok (.bl _)) ?_
    rw [Bool.true_xor] at h
    exact h
  | bl j =>
    cases a with
    | bl i =>
      refine .inr ⟨i, j, ra.bl, rb.bl, k _ M H _ (ResOk.same mok (.bl _)) ?_⟩
      have h : q (.d (.bl (true ^^ decide (i = j)))) := h
      rw [Bool.true_xor] at h
      exact h
    | _ => exact h.elim
  | _ => exact h.elim

/-! ### subscripts -/
theorem ixN_len {n m : Nat} {i : Int} (h : n = m) : ixN n i = ixN m i := by rw [h]
theorem RepL.at {K : PySem.W.Frag} {M : Addr → Prop} {H : Hp} {xs : List V} {ds : List D} {i : Int} {d : D} (r : RepL K M H xs ds) (h : atI ds i = some d) : ∃ v, atI xs i = some v ∧ Rep K M H v d := by
  unfold atI at h ⊢
  rw [r.length]
  cases e : ixN ds.length i with
  | none => rw [e] at h; cases h
  | some j =>
    rw [e] at h
    exact r.get h
def fIx : D → D → (RV → Prop) → Prop := fun a b q => match a, b with
  | .lst xs, .int i => some! (atI xs i) fun x => q (.d x)
  | .tup xs, .int i => some! (atI xs i) fun x => q (.d x)
  | .st xs, .int i => some! (atI xs i) fun x => q (.d x)
  | .fz xs, .int i => some! (atI xs i) fun x => q (.d x)
  | .str x, .int i => x.length ≤ sizeLine ∧ some! (atI x.cps.toList i) fun c => q (.d (.str ⟨#[c]⟩))
  | _, _ => False
theorem rIx_ok {K : PySem.W.Frag} : R2D K (rIx K) fIx := by
  intro M H x y a b Q q mok ra rb h k
  cases a with
  | lst ds =>
    cases b with
    | int i =>
      obtain ⟨d, e, h⟩ := some!_ok h
      obtain ⟨p, xs, ex, hx, r⟩ := ra.lst
      obtain ⟨v, e2, rv⟩ := r.at e
      exact .inl ⟨p, xs, i, v, ex, rb.int, SqL.of hx, e2, k _ M H _ (ResOk.same mok rv) h⟩
    | _ => exact h.elim
  | tup ds =>
    cases b with
    | int i =>
      obtain ⟨d, e, h⟩ := some!_ok h
      obtain ⟨p, xs, ex, hx, r⟩ := ra.tup
      obtain ⟨v, e2, rv⟩ := r.at e
      exact .inr (.inl ⟨p, xs, i, v, ex, rb.int, hx.sq, e2, k _ M H _ (ResOk.same mok rv) h⟩)
    | _ => exact h.elim
  | st ds =>
    cases b with
    | int i =>
      obtain ⟨d, e, h⟩ := some!_ok h
      obtain ⟨p, xs, ex, hx, r⟩ := ra.st
      obtain ⟨v, e2, rv⟩ := r.at e
      exact .inr (.inl ⟨p, xs, i, v, ex, rb.int, (SqTS.sq hx), e2, k _ M H _ (ResOk.same mok rv) h⟩)
    | _ => exact h.elim
  | fz ds =>
    cases b with
    | int i =>
      obtain ⟨d, e, h⟩ := some!_ok h
      obtain ⟨p, xs, ex, hx, r⟩ := ra.fz
      obtain ⟨v, e2, rv⟩ := r.at e
      exact .inl ⟨p, xs, i, v, ex, rb.int, hx.sq, e2, k _ M H _ (ResOk.same mok rv) h⟩
    | _ => exact h.elim
  | str z =>
    cases b with
    | int i =>
      obtain ⟨hz, h⟩ := h
      obtain ⟨c, e, h⟩ := some!_ok h
      exact .inr (.inr ⟨z, i, c, ra.str, rb.int, hz, e, k _ M H _ (ResOk.same mok (.str _)) h⟩)
    | _ => exact h.elim
  | _ => exact h.elim
theorem de_ix {X : Cx} {p : Amb} {W : WX} {a b : Expr} {ta tb : ET} {pos : Pos} (ha : DE X p W a ta) (hb : DE X p W b tb) (hs : PlainIx b) : DE X p W (.Subscript a b pos) (t2 fIx ta tb) :=
  ⟨PE.imp (pe_ix ix_seq ha.pe hb.pe hs) fun _ _ _ h => t2_ok rIx_ok h⟩

/-! ### one-place operations -/
def f1 (f : D → (RV → Prop) → Prop) (a : Option D) (q : RV → Prop) : Prop := match a with
  | some x => f x q
  | _ => False
def t1 (f : D → (RV → Prop) → Prop) (ta : ET) : ET := fun ρ q x => ta ρ (fun r ρ1 => f1 f (rd ρ1 r) fun z => q z ρ1) x
def R1D (K : PySem.W.Frag) (r : V → Hp → VK → Prop) (f : D → (RV → Prop) → Prop) : Prop := ∀ (M : Addr → Prop) (H : Hp) (x : V) (a : D) (Q : VK) (q : RV → Prop), (∀ p, M p → H p ≠ none) → RepC K M H x a → f a q →
  (∀ v M' H' z, ResOk K M H M' H' v z → q z → Q v H') → r x H Q
theorem f1_ok {f : D → (RV → Prop) → Prop} {a : Option D} {q : RV → Prop} (h : f1 f a q) : ∃ x, a = some x ∧ f x q := by
  cases a with
  | none => exact h.elim
  | some x => exact ⟨x, rfl, h⟩
theorem t1_ok {X : Cx} {p : Amb} {W : WX} {ta : ET} {r : V → Hp → VK → Prop} {f : D → (RV → Prop) → Prop} (hr : R1D X.K r f) {σ : L2.St} {H : Hp} {Q : VK} (h : lift X.K p W (t1 f ta) σ H Q) : lift X.K p W ta σ H fun x H1 => r x H1 Q := by
  obtain ⟨M, ρ, q, xq, S, ht, hq, hx⟩ := h
  refine ⟨M, ρ, _, _, S, ht, fun v M1 H1 ρ1 r1 P1 S1 R1 h1 => ?_, hx⟩
  obtain ⟨x, e1, h3⟩ := f1_ok h1
  refine hr M1 H1 v x Q _ P1.sim.mok (rd_ok P1.sim R1 e1) h3 fun w M3 H3 z ok hz => ?_
  obtain ⟨P3, R3⟩ := ok.fin S P1
  exact hq w M3 H3 ρ1 z P3 S1 R3 hz
theorem de_un {X : Cx} {p : Amb} {W : WX} {ta : ET} {a : Expr} {pos : Pos} {op : UnaryOp} {r : V → Hp → VK → Prop} {f : D → (RV → Prop) → Prop} (ho : UnR X (unaryOp op) r) (hr : R1D X.K r f) (ha : DE X p W a ta) : DE X p W (.UnaryOp op a pos) (t1 f ta) :=
  ⟨PE.imp (pe_un ho ha.pe) fun _ _ _ h => t1_ok hr h⟩
def fNeg : D → (RV → Prop) → Prop := fun a q => match a with
  | .int i => q (.d (.int (-i)))
  | _ => False
theorem neg_ok {K : PySem.W.Frag} : R1D K (rU fun i => .int (-i)) fNeg := by
  intro M H x a Q q mok ra h k
  cases a with
  | int i => exact ⟨i, ra.int, k _ M H _ (ResOk.same mok (.int _)) h⟩
  | _ => exact h.elim
/-- the truth of a value, as a test -/
def truD : D → (Bool → Prop) → Prop := fun a q => match a with
  | .non => q false
  | .bl b => q b
  | .int i => q (i != 0)
  | .str y => y.length ≤ sizeLine ∧ q ((y.length : Int) != 0)
  | .lst xs => q (!xs.isEmpty)
  | .tup xs => q (!xs.isEmpty)
  | _ => False
def tTr (ta : ET) : BT := fun ρ q x => ta ρ (fun r ρ1 => match rd ρ1 r with
  | some d => truD d fun b => q b ρ1
  | none => False) x
theorem RepL.isEmpty {K : PySem.W.Frag} {M : Addr → Prop} {H : Hp} {xs : List V} {ds : List D} (r : RepL K M H xs ds) : xs.isEmpty = ds.isEmpty := by cases r <;> rfl
theorem truD_ok {K : PySem.W.Frag} {M : Addr → Prop} {H : Hp} {v : V} {d : D} {q : Bool → Prop} (r : RepC K M H v d) (h : truD d q) : ∃ k, TruV K v H k ∧ q k := by
  cases d with
  | non => rw [r.non]; exact ⟨false, rfl, h⟩
  | bl b => rw [r.bl]; exact ⟨b, rfl, h⟩
  | int i => rw [r.int]; exact ⟨_, rfl, h⟩
  | str y => rw [r.str]; exact ⟨_, ⟨h.1, rfl⟩, h.2⟩
  | lst ds =>
    obtain ⟨p, xs, rfl, hx, r⟩ := r.lst
    exact ⟨_, .inl ⟨xs, SqL.of hx, rfl⟩, by rw [r.isEmpty]; exact h⟩
  | tup ds =>
    obtain ⟨p, xs, rfl, hx, r⟩ := r.tup
    exact ⟨_, .inr (.inl ⟨xs, hx.sq, rfl⟩), by rw [r.isEmpty]; exact h⟩
  | _ => exact h.elim
theorem db_tru {X : Cx} {p : Amb} {W : WX} {ta : ET} {a : Expr} (ha : DE X p W a ta) (he : ∀ whole, isTrue a X.env whole = (do let v ← whole; standAt a.pos; holding [v] (truthy v)) := by intro _; rfl) : DB X p W a (tTr ta) :=
  ⟨PT.imp (pt_truth ha.pe he) fun σ H Q ⟨M, ρ, q, xq, S, ht, hq, hx⟩ => by
    refine ⟨M, ρ, _, _, S, ht, fun v M1 H1 ρ1 r1 P1 S1 R1 h1 => ?_, hx⟩
    cases e : rd ρ1 r1 with
    | none =>
      simp only [e] at h1
    | some d =>
      simp only [e] at h1
      obtain ⟨k, h2, h3⟩ := truD_ok (rd_ok P1.sim R1 e) h1
      exact ⟨k, h2, hq k M1 H1 ρ1 P1 S1 h3⟩⟩

/-! ### argument lists -/
def cool : RV → RV
  | .n x => .d x
  | r => r
def aNil : AT := fun ρ q _ => q [] ρ
def aCons (ta : ET) (tr : AT) : AT := fun ρ q x => ta ρ (fun r ρ1 => tr ρ1 (fun rs ρ2 => q (cool r :: rs) ρ2) x) x
section
variable {K : PySem.W.Frag} {p0 : Amb} {M0 M : Addr → Prop} {σ : L2.St} {H0 H : Hp} {ρ0 ρ : Ev} {v : V}
/-- fewer are hot -/
theorem Sim.less (S : Sim K p0 M σ H ρ) {M' : Addr → Prop} (h : ∀ a, M' a → M a) (w : ∀ a, Wr σ ρ a → M' a) : Sim K p0 M' σ H ρ := by
  have k : Keep M H M' H := ⟨fun a o e n _ => ⟨.inl e, fun z => n (h a z)⟩, fun _ _ e => e⟩
  refine ⟨S.len, fun i d e => ?_, fun i d e => ?_, fun i d e => ?_, S.inj, fun a z => S.mok a (h a z), S.p0k, S.tabs⟩
  · obtain ⟨v, e1, r⟩ := S.va i d e
    exact ⟨v, e1, r.keep k⟩
  · obtain ⟨q, e1, m, o, n⟩ := S.ow i d e
    exact ⟨q, e1, w q ⟨i, d, .inl e, e1⟩, o.keep k fun _ z _ => z, n⟩
  · obtain ⟨q, e1, m, o, n⟩ := S.io i d e
    exact ⟨q, e1, w q ⟨i, d, .inr e, e1⟩, o.keep k fun _ z _ => z, n⟩
theorem cool_ok {σ0 : L2.St} (S0 : Sim K p0 M0 σ0 H0 ρ0) (P : Post K p0 M0 σ0 H0 ρ0 M σ H ρ) {r : RV} (ok : RVok K M σ ρ H0 H v r) :
    ∃ M', Post K p0 M0 σ0 H0 ρ0 M' σ H ρ ∧ RVok K M' σ ρ H0 H v (cool r) := by
  cases r with
  | d x => exact ⟨M, P, ok⟩
  | o i => exact ⟨M, P, ok⟩
  | n x =>
    obtain ⟨p, rfl, m, nw, f, o⟩ := ok
    have k : Keep M H (fun a => M a ∧ a ≠ p) H := ⟨fun a o e n _ => ⟨.inl e, fun z => n z.1⟩, fun _ _ e => e⟩
    refine ⟨fun a => M a ∧ a ≠ p, ⟨P.sim.less (fun a z => z.1) fun a z => ⟨P.sim.hot z, fun e => nw (e ▸ z)⟩, ⟨P.step.fr, fun a z => P.step.sub a z.1, fun a z n => ⟨P.step.kp a z n, fun e => S0.mok a z (e ▸ f)⟩, P.step.dom, P.step.tp, P.step.tb⟩, P.wr⟩, ?_⟩
    exact RVok.dd ((o.keep k fun _ z _ => z).rep fun z => z.2 rfl)
theorem cool_n (r : RV) : ∀ y, cool r ≠ .n y := by
  intro y
  cases r with
  | d x => exact fun z => nomatch z
  | n x => exact fun z => nomatch z
  | o i => exact fun z => nomatch z
end
section
variable {X : Cx} {p : Amb} {W : WX} {e : Expr} {es : List Expr} {te : ET} {t : AT} {pos : Pos}
theorem da_nil : DA X p W [] aNil := ⟨PA.imp pa_nil fun σ H Q ⟨M, ρ, q, xq, S, ht, hq, hx⟩ => hq [] M H ρ [] (Post.refl S) (Slots.refl ρ) .nil ht⟩
theorem da_cons (ha : DE X p W e te) (hr : DA X p W es t) (hs : starEach (e :: es) X.env = (false, eval e X.env) :: starEach es X.env := by rfl) : DA X p W (e :: es) (aCons te t) :=
  ⟨PA.imp (pa_cons ha.pe hr.pa hs) fun σ H Q ⟨M, ρ, q, xq, S, ht, hq, hx⟩ => by
    refine ⟨M, ρ, _, _, S, ht, fun v M1 H1 ρ1 r1 P1 S1 R1 h1 => ?_, hx⟩
    obtain ⟨M1', P1', R1'⟩ := cool_ok S P1 R1
    refine ⟨M1', ρ1, _, _, P1'.sim, h1, fun vs M2 H2 ρ2 rs P2 S2 R2 h2 => ?_, fun c M2 H2 ρ2 P2 h2 => hx c M2 H2 ρ2 (P1'.trans S P2) h2⟩
    refine hq (v :: vs) M2 H2 ρ2 _ (P1'.trans S P2) (S1.trans S2) (.cons (R1'.post P1'.sim P2 S2) (cool_n r1) ?_) h2
    clear h2
    induction R2 with
    | nil => exact .nil
    | cons a b c ih => exact .cons (a.back P1'.step.dom) b ih⟩
end
/-- the data of results, as they lie -/
def rdL (ρ : Ev) : List RV → Option (List D)
  | [] => some []
  | r :: rs => match rd ρ r, rdL ρ rs with
    | some x, some xs => some (x :: xs)
    | _, _ => none
inductive RepCL (K : PySem.W.Frag) (M : Addr → Prop) (H : Hp) : List V → List D → Prop
  | nil : RepCL K M H [] []
  | cons {v : V} {vs : List V} {d : D} {ds : List D} : RepC K M H v d → RepCL K M H vs ds → RepCL K M H (v :: vs) (d :: ds)
theorem rdL_ok {K : PySem.W.Frag} {p0 : Amb} {M : Addr → Prop} {σ : L2.St} {H0 H : Hp} {ρ : Ev} (S : Sim K p0 M σ H ρ) : ∀ {vs : List V} {rs : List RV} {ds : List D}, RVsOk K M σ ρ H0 H vs rs → rdL ρ rs = some ds → RepCL K M H vs ds
  | _, _, _, .nil, e => by cases e; exact .nil
  | _, _, _, .cons (r := r) (rs := rs) a b c, e => by
    unfold rdL at e
    cases e1 : rd ρ r with
    | none => simp only [e1] at e; cases e
    | some x =>
      cases e2 : rdL ρ rs with
      | none => simp only [e1, e2] at e; cases e
      | some xs =>
        simp only [e1, e2] at e
        cases e
        exact .cons (rd_ok S a e1) (rdL_ok S c e2)
/-- a call of a built-in by values -/
def RCD (K : PySem.W.Frag) (r : List V → Hp → VK → Prop) (f : List D → (RV → Prop) → Prop) : Prop := ∀ (M : Addr → Prop) (H : Hp) (vs : List V) (ds : List D) (Q : VK) (q : RV → Prop), (∀ p, M p → H p ≠ none) → RepCL K M H vs ds → f ds q →
  (∀ v M' H' z, ResOk K M H M' H' v z → q z → Q v H') → r vs H Q
def tC' (f : List D → (RV → Prop) → Prop) (ta : AT) : ET := fun ρ q x => ta ρ (fun rs ρ1 => some! (rdL ρ1 rs) fun ds => f ds fun z => q z ρ1) x
section
variable {X : Cx} {p : Amb} {W : WX} {e : Expr} {es : List Expr} {te : ET} {t : AT} {pos pos' : Pos} {x : Str} {id : String} {r : List V → Hp → VK → Prop} {f : List D → (RV → Prop) → Prop}
theorem tC_ok (hr : RCD X.K r f) {σ : L2.St} {H : Hp} {Q : VK} (h : lift X.K p W (tC' f t) σ H Q) : tCB r (liftA X.K p W t) σ H Q := by
  obtain ⟨M, ρ, q, xq, S, ht, hq, hx⟩ := h
  refine ⟨M, ρ, _, _, S, ht, fun vs M1 H1 ρ1 rs P1 S1 R1 h1 => ?_, hx⟩
  obtain ⟨ds, e1, h2⟩ := some!_ok h1
  refine hr M1 H1 vs ds Q _ P1.sim.mok (rdL_ok P1.sim R1 e1) h2 fun w M3 H3 z ok hz => ?_
  obtain ⟨P3, R3⟩ := ok.fin S P1
  exact hq w M3 H3 ρ1 z P3 S1 R3 hz
theorem de_callB (hc : CallR X (.builtin id) r) (hr : RCD X.K r f) (hg : Gl X x) (hm : X.mg x = none) (hv : bootBuiltins x = some (.builtin id)) (ha : DA X p W (e :: es) t) (hn : x ≠ "__name__" := by decide) (hdb : (x == ("__debug__" : Str)) = false := by decide)
    (he : starEach (e :: es) X.env = (false, eval e X.env) :: starEach es X.env := by rfl) (hpl : (backTo pos (starEach es X.env)).any (·.1) = false := by rfl) : DE X p W (.Call (.Name x pos') (e :: es) [] pos) (tC' f t) :=
  ⟨PE.imp (pe_callB hc hg hm hv ha.pa hn hdb he hpl) fun _ _ _ h => tC_ok hr h⟩
theorem de_callTy (hc : CallR X (.type id) r) (hr : RCD X.K r f) (hg : Gl X x) (hm : X.mg x = none) (hv : bootBuiltins x = some (.type id)) (ha : DA X p W (e :: es) t) (hn : x ≠ "__name__" := by decide) (hdb : (x == ("__debug__" : Str)) = false := by decide)
    (he : starEach (e :: es) X.env = (false, eval e X.env) :: starEach es X.env := by rfl) (hpl : (backTo pos (starEach es X.env)).any (·.1) = false := by rfl) : DE X p W (.Call (.Name x pos') (e :: es) [] pos) (tC' f t) :=
  ⟨PE.imp (pe_callTy hc hg hm hv ha.pa hn hdb he hpl) fun _ _ _ h => tC_ok hr h⟩
end
theorem RepCL.one {K : PySem.W.Frag} {M : Addr → Prop} {H : Hp} {vs : List V} {d : D} (h : RepCL K M H vs [d]) : ∃ v, vs = [v] ∧ RepC K M H v d := by
  cases h with | cons a b => cases b; exact ⟨_, rfl, a⟩
theorem RepCL.two {K : PySem.W.Frag} {M : Addr → Prop} {H : Hp} {vs : List V} {d e : D} (h : RepCL K M H vs [d, e]) : ∃ v u, vs = [v, u] ∧ RepC K M H v d ∧ RepC K M H u e := by
  cases h with | cons a b => cases b with | cons c f => cases f; exact ⟨_, _, rfl, a, c⟩
/-- len -/
def fLen : List D → (RV → Prop) → Prop := fun ds q => match ds with
  | [.lst xs] => q (.d (.int (xs.length : Int)))
  | [.tup xs] => q (.d (.int (xs.length : Int)))
  | [.st xs] => q (.d (.int (xs.length : Int)))
  | [.fz xs] => q (.d (.int (xs.length : Int)))
  | [.str x] => x.length ≤ sizeLine ∧ q (.d (.int (x.length : Int)))
  | _ => False
def rLenA (K : PySem.W.Frag) : List V → Hp → VK → Prop := fun vs H Q => (∃ p ys, vs = [.ref p] ∧ (SqL K H p ys ∨ SqT K H p ys) ∧ Q (.int ys.length) H) ∨ ∃ z, vs = [.str z] ∧ z.length ≤ sizeLine ∧ Q (.int z.length) H
theorem call_lenA {X : Cx} : CallR X (.builtin "len") (rLenA X.K) := call_len_seq.or call_len_str
theorem len_ok {K : PySem.W.Frag} : RCD K (rLenA K) fLen := by
  intro M H vs ds Q q mok r h k
  unfold fLen at h
  split at h
  · obtain ⟨v, rfl, s⟩ := r.one
    obtain ⟨p, xs, rfl, hx, t⟩ := s.lst
    refine .inl ⟨p, xs, rfl, .inl (SqL.of hx), ?_⟩
    rw [t.length]
    exact k _ M H _ (ResOk.same mok (.int _)) h
  · obtain ⟨v, rfl, s⟩ := r.one
    obtain ⟨p, xs, rfl, hx, t⟩ := s.tup
    refine .inl ⟨p, xs, rfl, .inr hx.sq, ?_⟩
    rw [t.length]
    exact k _ M H _ (ResOk.same mok (.int _)) h
  · obtain ⟨v, rfl, s⟩ := r.one
    obtain ⟨p, xs, rfl, hx, t⟩ := s.st
    refine .inl ⟨p, xs, rfl, .inr (SqTS.sq hx), ?_⟩
    rw [t.length]
    exact k _ M H _ (ResOk.same mok (.int _)) h
  · obtain ⟨v, rfl, s⟩ := r.one
    obtain ⟨p, xs, rfl, hx, t⟩ := s.fz
    refine .inl ⟨p, xs, rfl, .inl hx.sq, ?_⟩
    rw [t.length]
    exact k _ M H _ (ResOk.same mok (.int _)) h
  · obtain ⟨v, rfl, s⟩ := r.one
    rw [s.str]
    exact .inr ⟨_, rfl, h.1, k _ M H _ (ResOk.same mok (.int _)) h.2⟩
  · exact h.elim
/-- abs, int, min, max of ints -/
def fAbs : List D → (RV → Prop) → Prop := fun ds q => match ds with
  | [.int i] => q (.d (.int (if i < 0 then -i else i)))
  | _ => False
theorem abs_ok {K : PySem.W.Frag} : RCD K (fun xs H Q => ∃ i, xs = [.int i] ∧ Q (.int (if i < 0 then -i else i)) H) fAbs := by
  intro M H vs ds Q q mok r h k
  unfold fAbs at h
  split at h
  · obtain ⟨v, rfl, s⟩ := r.one
    rw [s.int]
    exact ⟨_, rfl, k _ M H _ (ResOk.same mok (.int _)) h⟩
  · exact h.elim
def fInt1 : List D → (RV → Prop) → Prop := fun ds q => match ds with
  | [.int i] => q (.d (.int i))
  | [.bl b] => q (.d (.int (if b then 1 else 0)))
  | _ => False
theorem int1_ok {K : PySem.W.Frag} : RCD K (fun xs H Q => (∃ i, xs = [.int i] ∧ Q (.int i) H) ∨ ∃ k, xs = [.bl k] ∧ Q (.int (if k then 1 else 0)) H) fInt1 := by
  intro M H vs ds Q q mok r h k
  unfold fInt1 at h
  split at h
  · obtain ⟨v, rfl, s⟩ := r.one
    rw [s.int]
    exact .inl ⟨_, rfl, k _ M H _ (ResOk.same mok (.int _)) h⟩
  · obtain ⟨v, rfl, s⟩ := r.one
    rw [s.bl]
    exact .inr ⟨_, rfl, k _ M H _ (ResOk.same mok (.int _)) h⟩
  · exact h.elim
def fInts2 (g : Int → Int → Int) : List D → (RV → Prop) → Prop := fun ds q => match ds with
  | [.int i, .int j] => q (.d (.int (g i j)))
  | _ => False
theorem ints2_ok {K : PySem.W.Frag} {g : Int → Int → Int} : RCD K (fun xs H Q => ∃ i j, xs = [.int i, .int j] ∧ Q (.int (g i j)) H) (fInts2 g) := by
  intro M H vs ds Q q mok r h k
  unfold fInts2 at h
  split at h
  · obtain ⟨v, u, rfl, r1, r2⟩ := r.two
    rw [r1.int, r2.int]
    exact ⟨_, _, rfl, k _ M H _ (ResOk.same mok (.int _)) h⟩
  · exact h.elim
abbrev fMax2 := fInts2 fun i j => if j > i then j else i
abbrev fMin2 := fInts2 fun i j => if j < i then j else i
end DL

set_option Elab.async false
set_option linter.all false
set_option maxRecDepth 100000
set_option maxHeartbeats 4000000
namespace DL
open PySem PySem.Spec PyProof.Rows L2

/-! ### a result put away: a slot's own thing grows cold -/
def settleS (i : Nat) (ρ : Ev) : Option Sl → Option (D × Ev)
  | some (.va x) => some (x, ρ)
  | some (.ow x) => some (x, ρ.set i (.va x))
  | _ => none
def settle (ρ : Ev) : RV → Option (D × Ev)
  | .d x => some (x, ρ)
  | .n x => some (x, ρ)
  | .o i => settleS i ρ ρ[i]?
def settleL (ρ : Ev) : List RV → Option (List D × Ev)
  | [] => some ([], ρ)
  | r :: rs => match settle ρ r with
    | some (x, ρ1) => match settleL ρ1 rs with
      | some (xs, ρ2) => some (x :: xs, ρ2)
      | none => none
    | none => none
section
variable {K : PySem.W.Frag} {p0 : Amb} {M0 M : Addr → Prop} {σ : L2.St} {H0 H : Hp} {ρ0 ρ ρ' : Ev} {v : V} {i : Nat} {x : D} {r : RV}
theorem get_set {ρ : Ev} {i j : Nat} {s t : Sl} (h : (ρ.set i s)[j]? = some t) : (j = i ∧ t = s) ∨ (j ≠ i ∧ ρ[j]? = some t) := by
  by_cases e : j = i
  · subst e
    left
    refine ⟨rfl, ?_⟩
    by_cases hl : j < ρ.length
    · rw [List.getElem?_set_self hl] at h
      exact (Option.some.inj h).symm
    · rw [List.getElem?_eq_none (by rw [List.length_set]; omega)] at h
      cases h
  · right
    rw [List.getElem?_set_ne (Ne.symm e)] at h
    exact ⟨e, h⟩
/-- a slot's own thing grows cold -/
theorem freeze_ok (S : Sim K p0 M σ H ρ) {p : Addr} (hi : ρ[i]? = some (.ow x)) (hs : σ[i]? = some (some (.ref p))) :
    ∃ M', Post K p0 M σ H ρ M' σ H (ρ.set i (.va x)) ∧ Slots ρ (ρ.set i (.va x)) ∧ Rep K M' H (.ref p) x := by
  obtain ⟨q, e, m, o, n⟩ := S.ow i x hi
  rw [hs] at e; cases e
  have k : Keep M H (fun a => M a ∧ a ≠ p) H := ⟨fun a o e n _ => ⟨.inl e, fun z => n z.1⟩, fun _ _ e => e⟩
  have hl : i < ρ.length := (List.getElem?_eq_some_iff.mp hi).1
  have R : Rep K (fun a => M a ∧ a ≠ p) H (.ref p) x := (o.keep k fun _ z _ => z).rep fun z => z.2 rfl
  have ne : ∀ {j : Nat} {d : D} {q : Addr}, j ≠ i → (ρ[j]? = some (.ow d) ∨ ρ[j]? = some (.io d)) → σ[j]? = some (some (.ref q)) → q ≠ p := fun {j d q} hj h1 h2 e => by
    subst e
    exact hj (S.inj j i d x q h1 (.inl hi) h2 hs)
  refine ⟨fun a => M a ∧ a ≠ p, ⟨⟨by rw [List.length_set]; exact S.len, fun j d e => ?_, fun j d e => ?_, fun j d e => ?_, fun j l d e q h1 h2 h3 h4 => ?_, fun a z => S.mok a z.1, S.p0k, S.tabs⟩, ⟨fun a o e _ _ => ⟨.inl e, fun _ => e⟩, fun a z => .inl z.1, fun a z n => ⟨z, fun e => n ⟨i, x, .inl hi, e ▸ hs⟩⟩, fun a z => z, fun _ _ z => z, fun a z => z⟩, fun a ⟨j, d, h1, h2⟩ => ?_⟩, trivial, R⟩
  · rcases get_set e with ⟨rfl, e'⟩ | ⟨_, e'⟩
    · cases e'
      exact ⟨_, hs, R⟩
    · obtain ⟨v, e1, r⟩ := S.va j d e'
      exact ⟨v, e1, r.keep k⟩
  · rcases get_set e with ⟨rfl, e'⟩ | ⟨hj, e'⟩
    · cases e'
    · obtain ⟨q, e1, m, o, n⟩ := S.ow j d e'
      exact ⟨q, e1, ⟨m, ne hj (.inl e') e1⟩, o.keep k fun _ z _ => z, n⟩
  · rcases get_set e with ⟨rfl, e'⟩ | ⟨hj, e'⟩
    · cases e'
    · obtain ⟨q, e1, m, o, n⟩ := S.io j d e'
      exact ⟨q, e1, ⟨m, ne hj (.inr e') e1⟩, o.keep k fun _ z _ => z, n⟩
  · have old : ∀ {j : Nat} {d : D}, ((ρ.set i (.va x))[j]? = some (.ow d) ∨ (ρ.set i (.va x))[j]? = some (.io d)) → (ρ[j]? = some (.ow d) ∨ ρ[j]? = some (.io d)) := fun {j d} h => by
      rcases h with h | h
      · rcases get_set h with ⟨_, e⟩ | ⟨_, e⟩
        · cases e
        · exact .inl e
      · rcases get_set h with ⟨_, e⟩ | ⟨_, e⟩
        · cases e
        · exact .inr e
    exact S.inj j l d e q (old h1) (old h2) h3 h4
  · left
    rcases h1 with h | h
    · rcases get_set h with ⟨_, e⟩ | ⟨_, e⟩
      · cases e
      · exact ⟨j, d, .inl e, h2⟩
    · rcases get_set h with ⟨_, e⟩ | ⟨_, e⟩
      · cases e
      · exact ⟨j, d, .inr e, h2⟩
theorem settle_ok (S : Sim K p0 M σ H ρ) (ok : RVok K M σ ρ H0 H v r) (nn : ∀ y, r ≠ .n y) (e : settle ρ r = some (x, ρ')) : ∃ M', Post K p0 M σ H ρ M' σ H ρ' ∧ Slots ρ ρ' ∧ Rep K M' H v x := by
  cases r with
  | d y =>
    cases e
    exact ⟨M, Post.refl S, Slots.refl ρ, ok⟩
  | n y => exact absurd rfl (nn y)
  | o i =>
    obtain ⟨e1, _⟩ := ok
    have e : settleS i ρ ρ[i]? = some (x, ρ') := e
    cases hy : ρ[i]? with
    | none => rw [hy] at e; cases e
    | some s =>
      rw [hy] at e
      cases s with
      | va y =>
        cases e
        obtain ⟨v', e2, r⟩ := S.va i _ hy
        rw [e1] at e2; cases e2
        exact ⟨M, Post.refl S, Slots.refl ρ, r⟩
      | ow y =>
        cases e
        obtain ⟨p, e2, _⟩ := S.ow i _ hy
        rw [e1] at e2; cases e2
        exact freeze_ok S hy e1
      | _ => cases e
theorem RVsOk.post {M1 : Addr → Prop} {H1 : Hp} {ρ1 : Ev} {vs : List V} {rs : List RV} (S : Sim K p0 M σ H ρ) (P : Post K p0 M σ H ρ M1 σ H1 ρ1) (s : Slots ρ ρ1) (c : RVsOk K M σ ρ H0 H vs rs) : RVsOk K M1 σ ρ1 H0 H1 vs rs := by
  induction c with
  | nil => exact .nil
  | cons a b c ih => exact .cons (a.post S P s) b ih
theorem settleL_ok : ∀ {rs : List RV} {vs : List V} {xs : List D} {M : Addr → Prop} {ρ ρ' : Ev} (S : Sim K p0 M σ H ρ), RVsOk K M σ ρ H0 H vs rs → settleL ρ rs = some (xs, ρ') → ∃ M', Post K p0 M σ H ρ M' σ H ρ' ∧ Slots ρ ρ' ∧ RepL K M' H vs xs
  | [], _, _, M, ρ, _, S, .nil, e => by
    cases e
    exact ⟨M, Post.refl S, Slots.refl ρ, .nil⟩
  | r :: rs, _, _, M, ρ, ρ', S, .cons a b c, e => by
    unfold settleL at e
    split at e
    · rename_i x ρ1 e1
      split at e
      · rename_i xs ρ2 e2
        cases e
        obtain ⟨M1, P1, S1, R1⟩ := settle_ok S a b e1
        obtain ⟨M2, P2, S2, R2⟩ := settleL_ok P1.sim (c.post S P1 S1) e2
        exact ⟨M2, P1.trans S P2, S1.trans S2, .cons (R1.keep (P2.keep P1.sim)) R2⟩
      · cases e
    · cases e
end

/-! ### displays -/
def tTup' (ta : AT) : ET := fun ρ q x => ta ρ (fun rs ρ1 => some! (settleL ρ1 rs) fun z => z.1.length ≤ 1000 ∧ q (.d (.tup z.1)) z.2) x
def tLst' (ta : AT) : ET := fun ρ q x => ta ρ (fun rs ρ1 => some! (settleL ρ1 rs) fun z => z.1.length ≤ 1000 ∧ q (.n (.lst z.1)) z.2) x
theorem sz1000 {n : Nat} (h : n ≤ 1000) : n ≤ sizeLine := Nat.le_of_lt (small1000 h)
section
variable {X : Cx} {p : Amb} {W : WX} {es : List Expr} {t : AT} {pos : Pos}
theorem de_tup {x1} (h : DA X p W es t) : DE X p W (.Tuple es x1 pos) (tTup' t) := ⟨PE.imp (pe_tup h.pa) fun σ H Q ⟨M, ρ, q, xq, S, ht, hq, hx⟩ => by
  refine ⟨M, ρ, _, _, S, ht, fun vs M1 H1 ρ1 rs P1 S1 R1 h1 => ?_, hx⟩
  obtain ⟨⟨ds, ρ2⟩, e, hl, h2⟩ := some!_ok h1
  obtain ⟨M2, P2, S2, R2⟩ := settleL_ok P1.sim R1 e
  refine ⟨by rw [R2.length]; exact sz1000 hl, fun l hp => ?_⟩
  obtain ⟨P3, R3⟩ := (ResOk.tup P2.sim.mok hp R2).fin S (P1.trans S P2)
  exact hq _ _ _ ρ2 _ P3 (S1.trans S2) R3 h2⟩
theorem de_lst (h : DA X p W es t) : DE X p W (.List es pos) (tLst' t) := ⟨PE.imp (pe_lst h.pa) fun σ H Q ⟨M, ρ, q, xq, S, ht, hq, hx⟩ => by
  refine ⟨M, ρ, _, _, S, ht, fun vs M1 H1 ρ1 rs P1 S1 R1 h1 => ?_, hx⟩
  obtain ⟨⟨ds, ρ2⟩, e, hl, h2⟩ := some!_ok h1
  obtain ⟨M2, P2, S2, R2⟩ := settleL_ok P1.sim R1 e
  refine ⟨by rw [R2.length]; exact sz1000 hl, fun l hp => ?_⟩
  obtain ⟨P3, R3⟩ := (ResOk.lst P2.sim.mok hp R2).fin S (P1.trans S P2)
  exact hq _ _ _ ρ2 _ P3 (S1.trans S2) R3 h2⟩
end

/-! ### tuple(xs), list(xs) -/
def fTuple : List D → (RV → Prop) → Prop := fun ds q => match ds with
  | [.lst xs] => q (.d (.tup xs))
  | [.tup xs] => q (.d (.tup xs))
  | _ => False
theorem tuple_ok {K : PySem.W.Frag} : RCD K (fun xs H Q => ∃ p ys, xs = [.ref p] ∧ ((SqL K H p ys ∧ ∀ l, H l = none → Q (.ref l) (upd H l (.tup ys))) ∨ (SqT K H p ys ∧ Q (.ref p) H))) fTuple := by
  intro M H vs ds Q q mok r h k
  unfold fTuple at h
  split at h
  · obtain ⟨v, rfl, s⟩ := r.one
    obtain ⟨p, xs, rfl, hx, t⟩ := s.lst
    exact ⟨p, xs, rfl, .inl ⟨SqL.of hx, fun l hl => k _ _ _ _ (ResOk.tup mok hl t) h⟩⟩
  · obtain ⟨v, rfl, s⟩ := r.one
    obtain ⟨p, xs, rfl, hx, t⟩ := s.tup
    exact ⟨p, xs, rfl, .inr ⟨hx.sq, k _ M H _ (ResOk.same mok (.tup hx t)) h⟩⟩
  · exact h.elim
def fList : List D → (RV → Prop) → Prop := fun ds q => match ds with
  | [.lst xs] => q (.n (.lst xs))
  | [.tup xs] => q (.n (.lst xs))
  | [.fz xs] => q (.n (.lst xs))
  | _ => False
theorem list_ok {K : PySem.W.Frag} : RCD K (fun xs H Q => ∃ p ys, xs = [.ref p] ∧ (SqL K H p ys ∨ SqT K H p ys) ∧ ∀ l, H l = none → Q (.ref l) (upd H l (.lst ys))) fList := by
  intro M H vs ds Q q mok r h k
  unfold fList at h
  split at h
  · obtain ⟨v, rfl, s⟩ := r.one
    obtain ⟨p, xs, rfl, hx, t⟩ := s.lst
    exact ⟨p, xs, rfl, .inl (SqL.of hx), fun l hl => k _ _ _ _ (ResOk.lst mok hl t) h⟩
  · obtain ⟨v, rfl, s⟩ := r.one
    obtain ⟨p, xs, rfl, hx, t⟩ := s.tup
    exact ⟨p, xs, rfl, .inr hx.sq, fun l hl => k _ _ _ _ (ResOk.lst mok hl t) h⟩
  · obtain ⟨v, rfl, s⟩ := r.one
    obtain ⟨p, xs, rfl, hx, t⟩ := s.fz
    exact ⟨p, xs, rfl, .inl hx.sq, fun l hl => k _ _ _ _ (ResOk.lst mok hl t) h⟩
  · exact h.elim

/-! ### slices -/
def oNone : Ev → (Option Int → Ev → Prop) → XQ → Prop := fun ρ q _ => q none ρ
def intR (ρ : Ev) (r : RV) : Option Int := match rd ρ r with
  | some (.int i) => some i
  | _ => none
def oSome (t : ET) : Ev → (Option Int → Ev → Prop) → XQ → Prop := fun ρ q x => t ρ (fun r ρ1 => some! (intR ρ1 r) fun i => q (some i) ρ1) x
abbrev OT := Ev → (Option Int → Ev → Prop) → XQ → Prop
def liftO (K : PySem.W.Frag) (p0 : Amb) (W : WX) (t : OT) : TO := fun σ H Q => ∃ (M : Addr → Prop) (ρ : Ev) (q : Option Int → Ev → Prop) (x : XQ), Sim K p0 M σ H ρ ∧ t ρ q x ∧
  (∀ o M' H' ρ', Post K p0 M σ H ρ M' σ H' ρ' → Slots ρ ρ' → q o ρ' → Q o H') ∧
  (∀ c M' H' ρ', Post K p0 M σ H ρ M' σ H' ρ' → x c ρ' → W (.ref c) none σ H')
structure DO' (X : Cx) (p0 : Amb) (W : WX) (e : Option Expr) (t : OT) : Prop where
  po : PO X e (liftO X.K p0 W t)
theorem PO.imp {X : Cx} {e : Option Expr} {t u : TO} (h : PO X e t) (i : ∀ σ H Q, u σ H Q → t σ H Q) : PO X e u := ⟨fun pins s σ H Q I hu => h.run pins s σ H Q I (i σ H Q hu)⟩
theorem intR_ok {ρ : Ev} {r : RV} {i : Int} (h : intR ρ r = some i) : rd ρ r = some (.int i) := by
  unfold intR at h
  cases e : rd ρ r with
  | none => simp only [e] at h; cases h
  | some d =>
    simp only [e] at h
    cases d with
    | int j => cases h; rfl
    | _ => cases h
section
variable {X : Cx} {p : Amb} {W : WX} {e : Expr} {lo hi : Option Expr} {te : ET} {tl th : OT} {pos p2 : Pos}
theorem do_none : DO' X p W none oNone := ⟨PO.imp po_none fun σ H Q ⟨M, ρ, q, xq, S, ht, hq, hx⟩ => hq none M H ρ (Post.refl S) (Slots.refl ρ) ht⟩
theorem do_some (h : DE X p W e te) : DO' X p W (some e) (oSome te) := ⟨PO.imp (po_some h.pe) fun σ H Q ⟨M, ρ, q, xq, S, ht, hq, hx⟩ => by
  refine ⟨M, ρ, _, _, S, ht, fun v M1 H1 ρ1 r1 P1 S1 R1 h1 => ?_, hx⟩
  obtain ⟨i, e1, h2⟩ := some!_ok h1
  exact ⟨i, (rd_ok P1.sim R1 (intR_ok e1)).int, hq _ M1 H1 ρ1 P1 S1 h2⟩⟩
def cutD (xs : List D) (lo hi : Option Int) : List D := (xs.drop (HT.sIx xs.length 0 lo)).take (HT.sIx xs.length xs.length hi - HT.sIx xs.length 0 lo)
theorem RepL.cut {K : PySem.W.Frag} {M : Addr → Prop} {H : Hp} {xs : List V} {ds : List D} (r : RepL K M H xs ds) (lo hi : Option Int) : RepL K M H (cutV xs lo hi) (cutD ds lo hi) := by
  unfold cutV cutD
  rw [r.length]
  exact (r.drop _).take _
def fSl (d : D) (lo hi : Option Int) (q : RV → Prop) : Prop := match d with
  | .lst xs => q (.n (.lst (cutD xs lo hi)))
  | .tup xs => q (.d (.tup (cutD xs lo hi)))
  | .str z => z.length ≤ sizeLine ∧ q (.d (.str (cutS z lo hi)))
  | _ => False
def tSl' (te : ET) (tl th : OT) : ET := fun ρ q x => te ρ (fun r ρ1 => tl ρ1 (fun lo ρ2 => th ρ2 (fun hi ρ3 => f1 (fun d k => fSl d lo hi k) (rd ρ3 r) fun z => q z ρ3) x) x) x
def rSlAll (K : PySem.W.Frag) : V → Option Int → Option Int → Hp → VK → Prop := fun x lo hi H Q => rSlL K x lo hi H Q ∨ rSlA K x lo hi H Q ∨ rSlS x lo hi H Q
theorem sl_all {X : Cx} : SlR X (rSlAll X.K) := sl_list.or (sl_tupA.or sl_str)
theorem cutV_whole (xs : List V) (lo hi : Option Int) (h : HT.sIx xs.length 0 lo = 0 ∧ HT.sIx xs.length xs.length hi = xs.length) : cutV xs lo hi = xs := by
  unfold cutV
  rw [h.1, h.2, List.drop_zero, Nat.sub_zero, List.take_length]
theorem de_slice (he : DE X p W e te) (hl : DO' X p W lo tl) (hu : DO' X p W hi th) : DE X p W (.Subscript e (.Slice lo hi none p2) pos) (tSl' te tl th) := ⟨PE.imp (pe_slice sl_all he.pe hl.po hu.po) fun σ H Q ⟨M, ρ, q, xq, S, ht, hq, hx⟩ => by
  refine ⟨M, ρ, _, _, S, ht, fun v M1 H1 ρ1 r1 P1 S1 R1 h1 => ?_, hx⟩
  refine ⟨M1, ρ1, _, _, P1.sim, h1, fun lo M2 H2 ρ2 P2 S2 h2 => ?_, fun c M2 H2 ρ2 P2 h2 => hx c M2 H2 ρ2 (P1.trans S P2) h2⟩
  have P2' := P1.trans S P2
  refine ⟨M2, ρ2, _, _, P2.sim, h2, fun hi M3 H3 ρ3 P3 S3 h3 => ?_, fun c M3 H3 ρ3 P3 h3 => hx c M3 H3 ρ3 (P2'.trans S P3) h3⟩
  have P3' := P2'.trans S P3
  obtain ⟨d, e1, h4⟩ := f1_ok h3
  have rc := rd_ok P3.sim ((R1.post P1.sim P2 S2).post P2.sim P3 S3) e1
  have k : ∀ w M4 H4 z, ResOk X.K M3 H3 M4 H4 w z → q z ρ3 → Q w H4 := fun w M4 H4 z ok hz => by
    obtain ⟨P4, R4⟩ := ok.fin S P3'
    exact hq w M4 H4 ρ3 z P4 ((S1.trans S2).trans S3) R4 hz
  cases d with
  | lst ds =>
    obtain ⟨a, xs, rfl, hx, r⟩ := rc.lst
    exact .inl ⟨a, xs, rfl, SqL.of hx, fun l hp => k _ _ _ _ (ResOk.lst P3.sim.mok hp (r.cut lo hi)) h4⟩
  | tup ds =>
    obtain ⟨a, xs, rfl, hx, r⟩ := rc.tup
    refine .inr (.inl ⟨a, xs, rfl, hx.sq, fun hw => ?_, fun _ l hp => k _ _ _ _ (ResOk.tup P3.sim.mok hp (r.cut lo hi)) h4⟩)
    have rr := r.cut lo hi
    rw [cutV_whole xs lo hi hw] at rr
    exact k _ M3 H3 _ (ResOk.same P3.sim.mok (.tup hx rr)) h4
  | str z =>
    rw [rc.str]
    exact .inr (.inr ⟨z, rfl, h4.1, k _ M3 H3 _ (ResOk.same P3.sim.mok (.str _)) h4.2⟩)
  | _ => exact h4.elim⟩
end
end DL

set_option Elab.async false
set_option linter.all false
set_option maxRecDepth 100000
set_option maxHeartbeats 4000000
namespace DL
open PySem PySem.Spec PyProof.Rows L2

section
variable {K : PySem.W.Frag} {p0 : Amb} {M0 M : Addr → Prop} {σ0 σ : L2.St} {H0 H : Hp} {ρ0 ρ ρ' : Ev} {v : V} {i : Nat} {x : D} {r : RV}
theorem settleN_ok (S0 : Sim K p0 M0 σ0 H0 ρ0) (P : Post K p0 M0 σ0 H0 ρ0 M σ H ρ) (ok : RVok K M σ ρ H0 H v r) (e : settle ρ r = some (x, ρ')) : ∃ M', Post K p0 M0 σ0 H0 ρ0 M' σ H ρ' ∧ Slots ρ ρ' ∧ Rep K M' H v x := by
  obtain ⟨M1, P1, R1⟩ := cool_ok S0 P ok
  have e1 : settle ρ (cool r) = some (x, ρ') := by
    cases r with
    | d y => exact e
    | n y => exact e
    | o i => exact e
  obtain ⟨M2, P2, S2, R2⟩ := settle_ok P1.sim R1 (cool_n r) e1
  exact ⟨M2, P1.trans S0 P2, S2, R2⟩

/-! ### slots stored -/
theorem set_get {σ : L2.St} {i j : Nat} {s t : Option V} (h : (σ.set i s)[j]? = some t) : (j = i ∧ t = s) ∨ (j ≠ i ∧ σ[j]? = some t) := by
  by_cases e : j = i
  · subst e
    left
    refine ⟨rfl, ?_⟩
    by_cases hl : j < σ.length
    · rw [List.getElem?_set_self hl] at h
      exact (Option.some.inj h).symm
    · rw [List.getElem?_eq_none (by rw [List.length_set]; omega)] at h
      cases h
  · right
    rw [List.getElem?_set_ne (Ne.symm e)] at h
    exact ⟨e, h⟩
theorem set_self {σ : L2.St} {ρ : Ev} {i : Nat} {s : Option V} {t u : Sl} (len : ρ.length = σ.length) (h : (ρ.set i t)[i]? = some u) : (σ.set i s)[i]? = some s := by
  have : i < (ρ.set i t).length := (List.getElem?_eq_some_iff.mp h).1
  rw [List.length_set, len] at this
  exact List.getElem?_set_self this
theorem set_other {σ : L2.St} {i j : Nat} {s : Option V} {t : Option V} (hj : j ≠ i) (h : σ[j]? = some t) : (σ.set i s)[j]? = some t := by
  rw [List.getElem?_set_ne (Ne.symm hj)]
  exact h
theorem store_va (S : Sim K p0 M σ H ρ) (R : Rep K M H v x) : Post K p0 M σ H ρ M (σ.set i (some v)) H (ρ.set i (.va x)) := by
  have old : ∀ {j : Nat} {d : D} {q : Addr}, ((ρ.set i (.va x))[j]? = some (.ow d) ∨ (ρ.set i (.va x))[j]? = some (.io d)) → (σ.set i (some v))[j]? = some (some (.ref q)) → (ρ[j]? = some (.ow d) ∨ ρ[j]? = some (.io d)) ∧ σ[j]? = some (some (.ref q)) ∧ j ≠ i := fun {j d q} h h2 => by
    have z : (ρ[j]? = some (.ow d) ∨ ρ[j]? = some (.io d)) ∧ j ≠ i := by
      rcases h with h | h
      · rcases get_set h with ⟨_, e⟩ | ⟨hj, e⟩
        · cases e
        · exact ⟨.inl e, hj⟩
      · rcases get_set h with ⟨_, e⟩ | ⟨hj, e⟩
        · cases e
        · exact ⟨.inr e, hj⟩
    refine ⟨z.1, ?_, z.2⟩
    rcases set_get h2 with ⟨e, _⟩ | ⟨_, e⟩
    · exact absurd e z.2
    · exact e
  refine ⟨⟨by rw [List.length_set, List.length_set]; exact S.len, fun j d e => ?_, fun j d e => ?_, fun j d e => ?_, fun j l d e q h1 h2 h3 h4 => ?_, S.mok, S.p0k, S.tabs⟩, Step.refl, fun a ⟨j, d, h1, h2⟩ => .inl ⟨j, d, (old h1 h2).1, (old h1 h2).2.1⟩⟩
  · rcases get_set e with ⟨e1, e2⟩ | ⟨hj, e'⟩
    · cases e2
      subst e1
      exact ⟨v, set_self S.len e, R⟩
    · obtain ⟨u, e1, r⟩ := S.va j d e'
      exact ⟨u, set_other hj e1, r⟩
  · rcases get_set e with ⟨e1, e2⟩ | ⟨hj, e'⟩
    · cases e2
    · obtain ⟨q, e1, m, o, n⟩ := S.ow j d e'
      exact ⟨q, set_other hj e1, m, o, n⟩
  · rcases get_set e with ⟨e1, e2⟩ | ⟨hj, e'⟩
    · cases e2
    · obtain ⟨q, e1, m, o, n⟩ := S.io j d e'
      exact ⟨q, set_other hj e1, m, o, n⟩
  · exact S.inj j l d e q (old h1 h3).1 (old h2 h4).1 (old h1 h3).2.1 (old h2 h4).2.1
theorem store_ow (S : Sim K p0 M σ H ρ) {p : Addr} (m : M p) (nw : ¬ Wr σ ρ p) (o : Own K M H p x) (n0 : p0.io ≠ some p) (hp : ∀ H00 : Hp, H00 p = none → True) :
    Sim K p0 M (σ.set i (some (.ref p))) H (ρ.set i (.ow x)) ∧ ∀ a, Wr (σ.set i (some (.ref p))) (ρ.set i (.ow x)) a → Wr σ ρ a ∨ a = p := by
  have old : ∀ {j : Nat} {d : D} {q : Addr}, ((ρ.set i (.ow x))[j]? = some (.ow d) ∨ (ρ.set i (.ow x))[j]? = some (.io d)) → (σ.set i (some (.ref p)))[j]? = some (some (.ref q)) → ((ρ[j]? = some (.ow d) ∨ ρ[j]? = some (.io d)) ∧ σ[j]? = some (some (.ref q)) ∧ j ≠ i) ∨ (j = i ∧ q = p) := fun {j d q} h h2 => by
    rcases set_get h2 with ⟨e, e3⟩ | ⟨hj, e⟩
    · cases e3
      exact .inr ⟨e, rfl⟩
    · left
      refine ⟨?_, e, hj⟩
      rcases h with h | h
      · rcases get_set h with ⟨e, _⟩ | ⟨_, e⟩
        · exact absurd e hj
        · exact .inl e
      · rcases get_set h with ⟨e, _⟩ | ⟨_, e⟩
        · exact absurd e hj
        · exact .inr e
  refine ⟨⟨by rw [List.length_set, List.length_set]; exact S.len, fun j d e => ?_, fun j d e => ?_, fun j d e => ?_, fun j l d e q h1 h2 h3 h4 => ?_, S.mok, S.p0k, S.tabs⟩, fun a ⟨j, d, h1, h2⟩ => ?_⟩
  · rcases get_set e with ⟨e1, e2⟩ | ⟨hj, e'⟩
    · cases e2
    · obtain ⟨u, e1, r⟩ := S.va j d e'
      exact ⟨u, set_other hj e1, r⟩
  · rcases get_set e with ⟨e1, e2⟩ | ⟨hj, e'⟩
    · cases e2
      subst e1
      exact ⟨p, set_self S.len e, m, o, n0⟩
    · obtain ⟨q, e1, m, o, n⟩ := S.ow j d e'
      exact ⟨q, set_other hj e1, m, o, n⟩
  · rcases get_set e with ⟨e1, e2⟩ | ⟨hj, e'⟩
    · cases e2
    · obtain ⟨q, e1, m, o, n⟩ := S.io j d e'
      exact ⟨q, set_other hj e1, m, o, n⟩
  · rcases old h1 h3 with ⟨a1, a2, _⟩ | ⟨a1, a2⟩
    · rcases old h2 h4 with ⟨b1, b2, _⟩ | ⟨b1, b2⟩
      · exact S.inj j l d e q a1 b1 a2 b2
      · subst b2
        exact absurd ⟨j, d, a1, a2⟩ nw
    · rcases old h2 h4 with ⟨b1, b2, _⟩ | ⟨b1, b2⟩
      · subst a2
        exact absurd ⟨l, e, b1, b2⟩ nw
      · rw [a1, b1]
  · rcases old h1 h2 with ⟨a1, a2, _⟩ | ⟨a1, a2⟩
    · exact .inl ⟨j, d, a1, a2⟩
    · exact .inr a2
/-- a result stored in a slot -/
def storeS (i j : Nat) (ρ : Ev) : Option Sl → Option Ev
  | some (.va x) => some (ρ.set i (.va x))
  | some (.ow x) => some ((ρ.set j (.va x)).set i (.va x))
  | _ => none
def store (i : Nat) (ρ : Ev) : RV → Option Ev
  | .d x => some (ρ.set i (.va x))
  | .n x => some (ρ.set i (.ow x))
  | .o j => storeS i j ρ ρ[j]?
theorem store_ok (S0 : Sim K p0 M0 σ0 H0 ρ0) (P : Post K p0 M0 σ0 H0 ρ0 M σ H ρ) (ok : RVok K M σ ρ H0 H v r) (e : store i ρ r = some ρ') : ∃ M', Post K p0 M0 σ0 H0 ρ0 M' (σ.set i (some v)) H ρ' := by
  cases r with
  | d x =>
    cases e
    exact ⟨M, P.trans S0 (store_va P.sim ok)⟩
  | n x =>
    cases e
    obtain ⟨p, rfl, m, nw, f, o⟩ := ok
    obtain ⟨S1, w1⟩ := store_ow (i := i) P.sim m nw o (fun z => S0.p0k p z f) (fun _ _ => trivial)
    refine ⟨M, S1, P.step, fun a h => ?_⟩
    rcases w1 a h with h | h
    · exact P.wr a h
    · exact .inr (h ▸ f)
  | o j =>
    have e' : storeS i j ρ ρ[j]? = some ρ' := e
    have key : ∀ {x ρ1}, settle ρ (.o j) = some (x, ρ1) → ρ' = ρ1.set i (.va x) → ∃ M', Post K p0 M0 σ0 H0 ρ0 M' (σ.set i (some v)) H ρ' := fun {x ρ1} h1 h2 => by
      obtain ⟨M2, P2, S2, R2⟩ := settleN_ok S0 P ok h1
      rw [h2]
      exact ⟨M2, P2.trans S0 (store_va P2.sim R2)⟩
    cases hy : ρ[j]? with
    | none => rw [hy] at e'; cases e'
    | some s =>
      rw [hy] at e'
      cases s with
      | va y =>
        cases e'
        exact key (x := y) (ρ1 := ρ) (by show settleS j ρ ρ[j]? = _; rw [hy]; rfl) rfl
      | ow y =>
        cases e'
        exact key (x := y) (ρ1 := ρ.set j (.va y)) (by show settleS j ρ ρ[j]? = _; rw [hy]; rfl) rfl
      | _ => cases e'

theorem upd_cold {H : Hp} {M : Addr → Prop} {p a : Addr} {o : HO} (mp : M p) (n : ¬ M a) : upd H p o a = H a := upd_ne fun z => n (by rw [z]; exact mp)
/-! ### a slot's own thing changed -/
def ownS : Option Sl → Option D
  | some (.ow x) => some x
  | some (.io x) => some x
  | _ => none
def putS (i : Nat) (x : D) (ρ : Ev) : Option Sl → Ev
  | some (.ow _) => ρ.set i (.ow x)
  | some (.io _) => ρ.set i (.io x)
  | _ => ρ
theorem own_at (S : Sim K p0 M σ H ρ) (h : ownS ρ[i]? = some x) : ∃ p, σ[i]? = some (some (.ref p)) ∧ M p ∧ Own K M H p x ∧ Wr σ ρ p := by
  cases hy : ρ[i]? with
  | none => rw [hy] at h; cases h
  | some s =>
    rw [hy] at h
    cases s with
    | ow y =>
      cases h
      obtain ⟨p, e, m, o, _⟩ := S.ow i _ hy
      exact ⟨p, e, m, o, i, _, .inl hy, e⟩
    | io y =>
      cases h
      obtain ⟨p, e, m, o, _⟩ := S.io i _ hy
      exact ⟨p, e, m, o, i, _, .inr hy, e⟩
    | _ => cases h
theorem put_kind {j : Nat} {s : Sl} {y : D} (h : ownS ρ[i]? = some x) (e : (putS i y ρ ρ[i]?)[j]? = some s) : (j ≠ i ∧ ρ[j]? = some s) ∨ (j = i ∧ ((∃ z, ρ[i]? = some (.ow z) ∧ s = .ow y) ∨ ∃ z, ρ[i]? = some (.io z) ∧ s = .io y)) := by
  cases hy : ρ[i]? with
  | none => rw [hy] at h; cases h
  | some t =>
    rw [hy] at h e
    cases t with
    | ow z =>
      rcases get_set (show (ρ.set i (.ow y))[j]? = some s from e) with ⟨e1, e2⟩ | ⟨e1, e2⟩
      · exact .inr ⟨e1, .inl ⟨z, rfl, e2⟩⟩
      · exact .inl ⟨e1, e2⟩
    | io z =>
      rcases get_set (show (ρ.set i (.io y))[j]? = some s from e) with ⟨e1, e2⟩ | ⟨e1, e2⟩
      · exact .inr ⟨e1, .inr ⟨z, rfl, e2⟩⟩
      · exact .inl ⟨e1, e2⟩
    | _ => cases h
theorem put_wr {y : D} (h : ownS ρ[i]? = some x) {a : Addr} (w : Wr σ (putS i y ρ ρ[i]?) a) : Wr σ ρ a := by
  obtain ⟨j, d, h1, h2⟩ := w
  rcases h1 with h1 | h1
  · rcases put_kind h h1 with ⟨_, e⟩ | ⟨rfl, ⟨z, e, _⟩ | ⟨z, e, _⟩⟩
    · exact ⟨j, d, .inl e, h2⟩
    · exact ⟨j, z, .inl e, h2⟩
    · exact ⟨j, z, .inr e, h2⟩
  · rcases put_kind h h1 with ⟨_, e⟩ | ⟨rfl, ⟨z, e, _⟩ | ⟨z, e, _⟩⟩
    · exact ⟨j, d, .inr e, h2⟩
    · exact ⟨j, z, .inl e, h2⟩
    · exact ⟨j, z, .inr e, h2⟩
theorem mut_gen {M' : Addr → Prop} {H' : Hp} (S : Sim K p0 M σ H ρ) {p : Addr} {y : D} (h : ownS ρ[i]? = some x) (hs : σ[i]? = some (some (.ref p))) (st : Step M (fun a => a = p) H M' H') (mok : ∀ a, M' a → H' a ≠ none) (mp' : M' p) (hy : Own K M' H' p y) : Post K p0 M σ H ρ M' σ H' (putS i y ρ ρ[i]?) := by
  obtain ⟨q, e, mp, op, wp⟩ := own_at S h
  rw [hs] at e; cases e
  have k : Keep M H M' H' := st.keep fun a z => by rw [z]; exact mp
  have len : (putS i y ρ ρ[i]?).length = ρ.length := by
    unfold putS
    split
    · exact List.length_set
    · exact List.length_set
    · rfl
  have old : ∀ {j : Nat} {d : D}, ((putS i y ρ ρ[i]?)[j]? = some (.ow d) ∨ (putS i y ρ ρ[i]?)[j]? = some (.io d)) → ∃ d', (ρ[j]? = some (.ow d') ∨ ρ[j]? = some (.io d')) := fun {j d} h1 => by
    rcases h1 with h1 | h1
    · rcases put_kind h h1 with ⟨_, e⟩ | ⟨rfl, ⟨z, e, _⟩ | ⟨z, e, _⟩⟩
      · exact ⟨d, .inl e⟩
      · exact ⟨z, .inl e⟩
      · exact ⟨z, .inr e⟩
    · rcases put_kind h h1 with ⟨_, e⟩ | ⟨rfl, ⟨z, e, _⟩ | ⟨z, e, _⟩⟩
      · exact ⟨d, .inr e⟩
      · exact ⟨z, .inl e⟩
      · exact ⟨z, .inr e⟩
  have hself : ∃ d', (ρ[i]? = some (.ow d') ∨ ρ[i]? = some (.io d')) := by
    cases hy : ρ[i]? with
    | none => rw [hy] at h; cases h
    | some t =>
      cases t with
      | ow z => exact ⟨z, .inl rfl⟩
      | io z => exact ⟨z, .inr rfl⟩
      | _ => rw [hy] at h; cases h
  have ne : ∀ {j : Nat} {d : D} {q : Addr}, j ≠ i → (ρ[j]? = some (.ow d) ∨ ρ[j]? = some (.io d)) → σ[j]? = some (some (.ref q)) → q ≠ p := fun {j d q} hj h1 h2 e => by
    subst e
    obtain ⟨d', hd⟩ := hself
    exact hj (S.inj j i d d' q h1 hd h2 hs)
  refine ⟨⟨by rw [len]; exact S.len, fun j d e => ?_, fun j d e => ?_, fun j d e => ?_, fun j l d e q h1 h2 h3 h4 => ?_, mok, fun q z => st.dom q (S.p0k q z), fun q z => st.tb q (S.tabs q z)⟩, st.weak fun a z => by rw [z]; exact wp, fun a ⟨j, d, h1, h2⟩ => ?_⟩
  · rcases put_kind h e with ⟨hj, e'⟩ | ⟨_, ⟨z, _, e'⟩ | ⟨z, _, e'⟩⟩
    · obtain ⟨u, e1, r⟩ := S.va j d e'
      exact ⟨u, e1, r.keep k⟩
    · cases e'
    · cases e'
  · rcases put_kind h e with ⟨hj, e'⟩ | ⟨rfl, ⟨z, e1, e'⟩ | ⟨z, _, e'⟩⟩
    · obtain ⟨q, e1, m, oo, n⟩ := S.ow j d e'
      have nq := ne hj (.inl e') e1
      exact ⟨q, e1, st.kp q m nq, oo.keep k fun u eu t => (st.fr q u eu nq t).2 m, n⟩
    · cases e'
      obtain ⟨q, e2, m, oo, n⟩ := S.ow _ _ e1
      rw [hs] at e2; cases e2
      exact ⟨p, hs, mp', hy, n⟩
    · cases e'
  · rcases put_kind h e with ⟨hj, e'⟩ | ⟨rfl, ⟨z, e1, e'⟩ | ⟨z, e1, e'⟩⟩
    · obtain ⟨q, e1, m, oo, n⟩ := S.io j d e'
      have nq := ne hj (.inr e') e1
      exact ⟨q, e1, st.kp q m nq, oo.keep k fun u eu t => (st.fr q u eu nq t).2 m, n⟩
    · cases e'
    · cases e'
      obtain ⟨q, e2, m, oo, n⟩ := S.io _ _ e1
      rw [hs] at e2; cases e2
      exact ⟨p, hs, mp', hy, n⟩
  · obtain ⟨d1, o1⟩ := old h1
    obtain ⟨d2, o2⟩ := old h2
    exact S.inj j l d1 d2 q o1 o2 h3 h4
  · obtain ⟨d1, o1⟩ := old h1
    exact .inl ⟨j, d1, o1, h2⟩
theorem mut_ok (S : Sim K p0 M σ H ρ) {p : Addr} {o : HO} {y : D} (h : ownS ρ[i]? = some x) (hs : σ[i]? = some (some (.ref p))) (hy : Own K M (upd H p o) p y) : Post K p0 M σ H ρ M σ (upd H p o) (putS i y ρ ρ[i]?) := by
  obtain ⟨q, e, mp, op, wp⟩ := own_at S h
  rw [hs] at e; cases e
  have dom : ∀ a, H a ≠ none → upd H p o a ≠ none := fun a ha => by
    by_cases e : a = p
    · rw [e, upd_same]; exact fun z => nomatch z
    · rw [upd_ne e]; exact ha
  exact mut_gen S h hs ⟨fun a u e n _ => ⟨.inl ((upd_ne n).trans e), fun _ => (upd_ne n).trans e⟩, fun a z => .inl z, fun a z _ => z, dom, fun b xs e => (upd_ne (fun z : b = p => op.ntp xs (by rw [← z]; exact e))).trans e, tab_upd op.nt⟩ (fun a z => dom a (S.mok a z)) mp hy
theorem put_slots (_ : ownS ρ[i]? = some x) (y : D) : Slots ρ (putS i y ρ ρ[i]?) := trivial
end

/-! ### methods of a slot's own list -/
def ownL (ρ : Ev) : RV → Option (Nat × List D)
  | .o i => match ownS ρ[i]? with
    | some (.lst xs) => some (i, xs)
    | _ => none
  | _ => none
theorem ownL_ok {ρ : Ev} {r : RV} {i : Nat} {xs : List D} (h : ownL ρ r = some (i, xs)) : r = .o i ∧ ownS ρ[i]? = some (.lst xs) := by
  cases r with
  | o j =>
    unfold ownL at h
    simp only at h
    split at h
    · rename_i ys e
      cases h
      exact ⟨rfl, e⟩
    · cases h
  | _ => cases h
def put (i : Nat) (x : D) (ρ : Ev) : Ev := putS i x ρ ρ[i]?
def tAppend (to : ET) (ta : AT) : ET := fun ρ q x => to ρ (fun r ρ1 => some! (ownL ρ1 r) fun _ => ta ρ1 (fun rs ρ2 => some! (settleL ρ2 rs) fun z => match z.1 with
  | [y] => some! (ownL z.2 r) fun a => a.2.length < sizeLine ∧ q (.d .non) (put a.1 (.lst (a.2 ++ [y])) z.2)
  | _ => False) x) x
def tPop (to : ET) : ET := fun ρ q x => to ρ (fun r ρ1 => some! (ownL ρ1 r) fun a => some! a.2[a.2.length - 1]? fun y => q (.d y) (put a.1 (.lst a.2.dropLast) ρ1)) x
section
variable {X : Cx} {p : Amb} {W : WX} {o e : Expr} {es : List Expr} {to : ET} {t : AT} {apos cpos : Pos}
theorem de_append (ho : DE X p W o to) (ha : DA X p W (e :: es) t)
    (hbase : attributeBase o "append" X.env (eval o X.env) = eval o X.env := by rfl)
    (hfew : ((backTo cpos (starEach (e :: es) X.env)).all (fun x => !x.1) && (backToKw cpos (keywordEach [] X.env)).all (fun x => x.1.isSome)
      && decide ((e :: es).length + ([] : List Keyword).length + (if ([] : List Keyword).isEmpty then 0 else 1) < 30)) = true := by rfl)
    (hline : (apos.endLine == cpos.line) = true := by rfl) (hs : starEach (e :: es) X.env = (false, eval e X.env) :: starEach es X.env := by rfl) (hplain : (backTo cpos (starEach es X.env)).any (·.1) = false := by rfl) :
    DE X p W (.Call (.Attribute o "append" apos) (e :: es) [] cpos) (tAppend to t) :=
  ⟨PE.imp (pe_bm PySem.F.plainAttrs_list PySem.F.slot_list_append PySem.F.type_list_append mt_append ho.pe ha.pa hbase hfew hline hs hplain) fun σ H Q ⟨M, ρ, q, xq, S, ht, hq, hx⟩ => by
    refine ⟨M, ρ, _, _, S, ht, fun v M1 H1 ρ1 r1 P1 S1 R1 h1 => ?_, hx⟩
    obtain ⟨⟨i, xs⟩, e1, h2⟩ := some!_ok h1
    obtain ⟨rfl, eo⟩ := ownL_ok e1
    obtain ⟨a, hs1, m1, o1, w1⟩ := own_at P1.sim eo
    obtain ⟨vs0, hv0, r0⟩ := o1
    obtain rfl : v = .ref a := by
      have z := R1.1
      rw [hs1] at z
      cases z
      rfl
    refine ⟨.inl ⟨rfl, vs0, SqL.of hv0⟩, M1, ρ1, _, _, P1.sim, h2, fun vs M2 H2 ρ2 rs P2 S2 R2 h3 => ?_, fun c M2 H2 ρ2 P2 h3 => hx c M2 H2 ρ2 (P1.trans S P2) h3⟩
    obtain ⟨⟨ds, ρ3⟩, e2, h4⟩ := some!_ok h3
    obtain ⟨M3, P3, S3, R3⟩ := settleL_ok P2.sim R2 e2
    simp only at h4
    split at h4
    · rename_i y
      obtain ⟨⟨i', xs2⟩, e3, hl, h5⟩ := some!_ok h4
      obtain ⟨e4, eo2⟩ := ownL_ok e3
      cases e4
      obtain ⟨a2, hs2, m2, ⟨vs2, hv2, r2⟩, w2⟩ := own_at P3.sim eo2
      rw [hs1] at hs2
      cases hs2
      cases R3 with
      | cons ry rn =>
        cases rn
        rename_i u
        refine ⟨a, vs2, u, rfl, rfl, hv2, by rw [r2.length]; exact hl, ?_⟩
        have k : Keep M3 H2 M3 (upd H2 a (.lst (vs2 ++ [u]))) := ⟨fun b w e n _ => ⟨.inl (by rw [upd_cold m2 n]; exact e), n⟩, fun b xs e => (upd_ne (fun z => by rw [z, hv2] at e; cases e)).trans e⟩
        have P4 := mut_ok P3.sim eo2 hs1 (o := .lst (vs2 ++ [u])) (y := .lst (xs2 ++ [y])) ⟨_, upd_same, (r2.keep k).append (.cons (ry.keep k) .nil)⟩
        exact hq .non M3 _ _ (.d .non) (((P1.trans S P2).trans S P3).trans S P4) (((S1.trans S2).trans S3).trans (put_slots eo2 _)) (RVok.dd .non) h5
    · exact h4.elim⟩
theorem de_pop (ho : DE X p W o to) (hbase : attributeBase o "pop" X.env (eval o X.env) = eval o X.env := by rfl) (hline : (apos.endLine == cpos.line) = true := by rfl) :
    DE X p W (.Call (.Attribute o "pop" apos) [] [] cpos) (tPop to) :=
  ⟨PE.imp (pe_bm0 PySem.F.plainAttrs_list PySem.F.slot_list_pop PySem.F.type_list_pop mt_pop ho.pe hbase hline) fun σ H Q ⟨M, ρ, q, xq, S, ht, hq, hx⟩ => by
    refine ⟨M, ρ, _, _, S, ht, fun v M1 H1 ρ1 r1 P1 S1 R1 h1 => ?_, hx⟩
    obtain ⟨⟨i, xs⟩, e1, h2⟩ := some!_ok h1
    obtain ⟨rfl, eo⟩ := ownL_ok e1
    obtain ⟨a, hs1, m1, ⟨vs0, hv0, r0⟩, w1⟩ := own_at P1.sim eo
    obtain rfl : v = .ref a := by
      have z := R1.1
      rw [hs1] at z
      cases z
      rfl
    obtain ⟨y, ey, h3⟩ := some!_ok h2
    have ey : xs[xs.length - 1]? = some y := ey
    obtain ⟨u, eu, ru⟩ := r0.get ey
    refine ⟨.inl ⟨rfl, vs0, SqL.of hv0⟩, a, vs0, u, rfl, rfl, hv0, by rw [r0.length]; exact eu, ?_⟩
    have k : Keep M1 H1 M1 (upd H1 a (.lst vs0.dropLast)) := ⟨fun b w e n _ => ⟨.inl (by rw [upd_cold m1 n]; exact e), n⟩, fun b xs e => (upd_ne (fun z => by rw [z, hv0] at e; cases e)).trans e⟩
    have P4 := mut_ok P1.sim eo hs1 (o := .lst vs0.dropLast) (y := .lst xs.dropLast) ⟨_, upd_same, (r0.keep k).dropLast⟩
    exact hq u M1 _ _ (.d y) (P1.trans S P4) (S1.trans (put_slots eo _)) (RVok.dd (ru.keep k)) h3⟩
end
end DL

set_option Elab.async false
set_option linter.all false
set_option maxRecDepth 100000
set_option maxHeartbeats 4000000
namespace DL
open PySem PySem.Spec PyProof.Rows L2

structure SE where
  nx : Ev → Prop
  rt : RV → Ev → Prop
  bk : Ev → Prop
  ct : Ev → Prop
  xc : XQ
abbrev ST := SE → Ev → Prop
/-- what a def gives back -/
def RetOk (K : PySem.W.Frag) (p0 : Amb) (M' : Addr → Prop) (σ : L2.St) (H : Hp) (ρ : Ev) (H' : Hp) (v : V) : RV → Prop
  | .d x => Rep K M' H' v x
  | .n x => ∃ p, v = .ref p ∧ M' p ∧ Own K M' H' p x ∧ (H p = none ∨ Wr σ ρ p) ∧ p0.io ≠ some p
  | .o _ => False
theorem RetOk.dd {K : PySem.W.Frag} {p0 : Amb} {M' : Addr → Prop} {σ : L2.St} {H : Hp} {ρ : Ev} {H' : Hp} {v : V} {x : D} (h : Rep K M' H' v x) : RetOk K p0 M' σ H ρ H' v (.d x) := h
structure Lk (K : PySem.W.Frag) (p0 : Amb) (W : WX) (M : Addr → Prop) (σ : L2.St) (H : Hp) (ρ : Ev) (e : SE) (D : Ends) : Prop where
  nx : ∀ M' σ' H' ρ', Post K p0 M σ H ρ M' σ' H' ρ' → e.nx ρ' → D.nx σ' H'
  bk : ∀ M' σ' H' ρ', Post K p0 M σ H ρ M' σ' H' ρ' → e.bk ρ' → D.bk σ' H'
  ct : ∀ M' σ' H' ρ', Post K p0 M σ H ρ M' σ' H' ρ' → e.ct ρ' → D.ct σ' H'
  rt : ∀ v M' σ' H' ρ' r, Post K p0 M σ H ρ M' σ' H' ρ' → RetOk K p0 M' σ H ρ H' v r → e.rt r ρ' → D.rt v H'
  xc : ∀ c M' σ' H' ρ', Post K p0 M σ H ρ M' σ' H' ρ' → e.xc c ρ' → W (.ref c) none σ' H'
def liftS (K : PySem.W.Frag) (p0 : Amb) (W : WX) (t : ST) : TS := fun D σ H => ∃ (M : Addr → Prop) (ρ : Ev) (e : SE), Sim K p0 M σ H ρ ∧ t e ρ ∧ Lk K p0 W M σ H ρ e D
structure DS (X : Cx) (p0 : Amb) (W : WX) (st : Stmt) (t : ST) : Prop where
  ps : PS X st (liftS X.K p0 W t)
structure DSs (X : Cx) (p0 : Amb) (W : WX) (st : List Stmt) (t : ST) : Prop where
  pss : PSs X st (liftS X.K p0 W t)
section
variable {K : PySem.W.Frag} {p0 : Amb} {W : WX} {M M1 : Addr → Prop} {σ σ1 : L2.St} {H H1 : Hp} {ρ ρ1 : Ev} {e : SE} {D : Ends}
theorem RetOk.back (P : Post K p0 M σ H ρ M1 σ1 H1 ρ1) {M' : Addr → Prop} {H' : Hp} {v : V} {r : RV} (h : RetOk K p0 M' σ1 H1 ρ1 H' v r) : RetOk K p0 M' σ H ρ H' v r := by
  cases r with
  | d x => exact h
  | n x =>
    obtain ⟨p, e, m, o, w, n⟩ := h
    refine ⟨p, e, m, o, ?_, n⟩
    rcases w with w | w
    · exact .inl (dom_back P.step.dom w)
    · exact (P.wr p w).symm
  | o i => exact h
theorem Lk.after (S : Sim K p0 M σ H ρ) (l : Lk K p0 W M σ H ρ e D) (P : Post K p0 M σ H ρ M1 σ1 H1 ρ1) : Lk K p0 W M1 σ1 H1 ρ1 e D :=
  ⟨fun M' σ' H' ρ' P' h => l.nx M' σ' H' ρ' (P.trans S P') h, fun M' σ' H' ρ' P' h => l.bk M' σ' H' ρ' (P.trans S P') h, fun M' σ' H' ρ' P' h => l.ct M' σ' H' ρ' (P.trans S P') h,
   fun v M' σ' H' ρ' r P' R h => l.rt v M' σ' H' ρ' r (P.trans S P') (R.back P) h, fun c M' σ' H' ρ' P' h => l.xc c M' σ' H' ρ' (P.trans S P') h⟩
/-- another wish for what follows -/
theorem Lk.to (S : Sim K p0 M σ H ρ) (l : Lk K p0 W M σ H ρ e D) {n : Ev → Prop} {N : L2.St → Hp → Prop} (h : ∀ M' σ' H' ρ', Post K p0 M σ H ρ M' σ' H' ρ' → n ρ' → N σ' H') : Lk K p0 W M σ H ρ { e with nx := n } { D with nx := N } :=
  ⟨h, l.bk, l.ct, l.rt, l.xc⟩
end
section
variable {X : Cx} {p : Amb} {W : WX} {st : Stmt} {rest : List Stmt} {t u : ST} {e : Expr} {te : ET} {pos : Pos}
def sNext : ST := fun e ρ => e.nx ρ
def sSeq (t u : ST) : ST := fun e ρ => t { e with nx := u e } ρ
theorem dss_nil : DSs X p W [] sNext := ⟨PSs.imp pss_nil fun D σ H ⟨M, ρ, e, S, h, l⟩ => l.nx M σ H ρ (Post.refl S) h⟩
theorem dss_cons (h1 : DS X p W st t) (h2 : DSs X p W rest u) : DSs X p W (st :: rest) (sSeq t u) := ⟨PSs.imp (pss_cons h1.ps h2.pss) fun D σ H ⟨M, ρ, e, S, h, l⟩ =>
  ⟨M, ρ, _, S, h, l.to S fun M' σ' H' ρ' P h' => ⟨M', ρ', e, P.sim, h', l.after S P⟩⟩⟩
theorem dss_one (h1 : DS X p W st t) : DSs X p W [st] t := ⟨pss_one h1.ps⟩
theorem ds_pass : DS X p W (.Pass pos) sNext := ⟨PS.imp ps_pass fun D σ H ⟨M, ρ, e, S, h, l⟩ => l.nx M σ H ρ (Post.refl S) h⟩
def sBreak : ST := fun e ρ => e.bk ρ
def sCont : ST := fun e ρ => e.ct ρ
theorem ds_break : DS X p W (.Break pos) sBreak := ⟨PS.imp ps_break fun D σ H ⟨M, ρ, e, S, h, l⟩ => l.bk M σ H ρ (Post.refl S) h⟩
theorem ds_continue : DS X p W (.Continue pos) sCont := ⟨PS.imp ps_continue fun D σ H ⟨M, ρ, e, S, h, l⟩ => l.ct M σ H ρ (Post.refl S) h⟩
def sExpr (te : ET) : ST := fun e ρ => te ρ (fun _ ρ1 => e.nx ρ1) e.xc
theorem ds_expr (he : DE X p W e te) (hs : swapsWith e none pos.line X.env = pure false := by rfl) : DS X p W (.Expr e pos) (sExpr te) := ⟨PS.imp (ps_expr he.pe hs) fun D σ H ⟨M, ρ, e, S, h, l⟩ =>
  ⟨M, ρ, _, _, S, h, fun v M1 H1 ρ1 r P1 _ _ h1 => l.nx M1 σ H1 ρ1 P1 h1, fun c M1 H1 ρ1 P1 h1 => l.xc c M1 σ H1 ρ1 P1 h1⟩⟩
def retS : Option Sl → Option RV
  | some (.va x) => some (.d x)
  | some (.ow x) => some (.n x)
  | _ => none
def retR (ρ : Ev) : RV → Option RV
  | .d x => some (.d x)
  | .n x => some (.n x)
  | .o i => retS ρ[i]?
def sRet (te : ET) : ST := fun e ρ => te ρ (fun r ρ1 => some! (retR ρ1 r) fun z => e.rt z ρ1) e.xc
theorem ret_ok {K : PySem.W.Frag} {p0 : Amb} {M M1 : Addr → Prop} {σ : L2.St} {H H1 : Hp} {ρ ρ1 : Ev} {v : V} {r z : RV} (S : Sim K p0 M σ H ρ) (P : Post K p0 M σ H ρ M1 σ H1 ρ1) (R : RVok K M1 σ ρ1 H H1 v r) (h : retR ρ1 r = some z) : RetOk K p0 M1 σ H ρ H1 v z := by
  cases r with
  | d x => cases h; exact R
  | n x =>
    cases h
    obtain ⟨a, e, m, nw, f, o⟩ := R
    exact ⟨a, e, m, o, .inl f, fun z => S.p0k a z f⟩
  | o i =>
    have h : retS ρ1[i]? = some z := h
    obtain ⟨e1, _⟩ := R
    cases hy : ρ1[i]? with
    | none => rw [hy] at h; cases h
    | some s =>
      rw [hy] at h
      cases s with
      | va x =>
        cases h
        obtain ⟨v', e2, r⟩ := P.sim.va i x hy
        rw [e1] at e2; cases e2
        exact r
      | ow x =>
        cases h
        obtain ⟨a, e2, m, o, n⟩ := P.sim.ow i x hy
        rw [e1] at e2; cases e2
        exact ⟨a, rfl, m, o, (P.wr a ⟨i, x, .inl hy, e1⟩).symm, n⟩
      | _ => cases h
theorem ds_ret (he : DE X p W e te) : DS X p W (.Return (some e) pos) (sRet te) := ⟨PS.imp (ps_ret he.pe) fun D σ H ⟨M, ρ, e, S, h, l⟩ =>
  ⟨M, ρ, _, _, S, h, fun v M1 H1 ρ1 r P1 _ R1 h1 => by
    obtain ⟨z, e1, h2⟩ := some!_ok h1
    exact l.rt v M1 σ H1 ρ1 z P1 (ret_ok S P1 R1 e1) h2, fun c M1 H1 ρ1 P1 h1 => l.xc c M1 σ H1 ρ1 P1 h1⟩⟩
def sRetN : ST := fun e ρ => e.rt (.d .non) ρ
theorem ds_retN : DS X p W (.Return none pos) sRetN := ⟨PS.imp ps_retN fun D σ H ⟨M, ρ, e, S, h, l⟩ => l.rt .non M σ H ρ _ (Post.refl S) (RetOk.dd .non) h⟩
def sIf (c : BT) (t u : ST) : ST := fun e ρ => c ρ (fun b ρ1 => if b = true then t e ρ1 else u e ρ1) e.xc
theorem ds_if {c : Expr} {a b : List Stmt} {tc : BT} (hc : DB X p W c tc) (ha : DSs X p W a t) (hb : DSs X p W b u) : DS X p W (.If c a b pos) (sIf tc t u) := ⟨PS.imp (ps_if hc.pt ha.pss hb.pss) fun D σ H ⟨M, ρ, e, S, h, l⟩ => by
  refine ⟨M, ρ, _, _, S, h, fun k M1 H1 ρ1 P1 _ h1 => ?_, fun c M1 H1 ρ1 P1 h1 => l.xc c M1 σ H1 ρ1 P1 h1⟩
  cases k with
  | true =>
    rw [if_pos rfl] at h1 ⊢
    exact ⟨M1, ρ1, e, P1.sim, h1, l.after S P1⟩
  | false =>
    rw [if_neg Bool.false_ne_true] at h1 ⊢
    exact ⟨M1, ρ1, e, P1.sim, h1, l.after S P1⟩⟩
/-- name = e -/
def sSet (i : Nat) (te : ET) : ST := fun e ρ => te ρ (fun r ρ1 => some! (store i ρ1 r) e.nx) e.xc
theorem ds_set {i : Nat} {x : Str} {pos' : Pos} (hN : X.N.Nodup) (hi : X.N[i]? = some x) (hx : Loc X.env.scope x) (he : DE X p W e te) (hs : swapsWith e (some (.Name x pos')) pos.line X.env = pure false := by rfl) (hf : X.fn x = true ∨ X.env.scope.names.lookup x = some .local := by first | exact .inl rfl | exact .inr rfl | assumption) :
    DS X p W (.Assign [.Name x pos'] e pos) (sSet i te) := ⟨PS.imp (ps_set hN hi hx he.pe hs hf) fun D σ H ⟨M, ρ, e, S, h, l⟩ =>
  ⟨M, ρ, _, _, S, h, fun v M1 H1 ρ1 r P1 _ R1 h1 => by
    obtain ⟨ρ2, e1, h2⟩ := some!_ok h1
    obtain ⟨M2, P2⟩ := store_ok (i := i) S P1 R1 e1
    exact l.nx M2 _ H1 ρ2 P2 h2, fun c M1 H1 ρ1 P1 h1 => l.xc c M1 σ H1 ρ1 P1 h1⟩⟩
/-- name op= e -/
def sAug (f : D → D → (RV → Prop) → Prop) (i : Nat) (te : ET) : ST := fun e ρ => some! (slR i ρ[i]?) fun s => te ρ (fun r ρ1 => f2 f (rd ρ1 s) (rd ρ1 r) fun z => some! (store i ρ1 z) e.nx) e.xc
theorem ds_aug {i : Nat} {x : Str} {op : Operator} {r : R2} {f : D → D → (RV → Prop) → Prop} {pos' : Pos} (hN : X.N.Nodup) (hi : X.N[i]? = some x) (hx : Loc X.env.scope x) (ho : OpR X (inplaceOp op) r) (hr : R2D X.K r f) (he : DE X p W e te) (hf : X.fn x = true ∨ X.env.scope.names.lookup x = some .local := by first | exact .inl rfl | exact .inr rfl | assumption) :
    DS X p W (.AugAssign (.Name x pos') op e pos) (sAug f i te) := ⟨PS.imp (ps_aug hN hi hx he.pe (ti := r) ho hf) fun D σ H ⟨M, ρ, e, S, h, l⟩ => by
  obtain ⟨s, e0, h⟩ := some!_ok h
  obtain ⟨v0, hv0, R0⟩ := var_ok S e0
  refine ⟨v0, hv0, M, ρ, _, _, S, h, fun v M1 H1 ρ1 r1 P1 S1 R1 h1 => ?_, fun c M1 H1 ρ1 P1 h1 => l.xc c M1 σ H1 ρ1 P1 h1⟩
  obtain ⟨a, b, e1, e2, h2⟩ := f2_ok h1
  refine hr M1 H1 v0 v a b _ _ P1.sim.mok (rd_ok P1.sim (R0.post S P1 S1) e1) (rd_ok P1.sim R1 e2) h2 fun w M3 H3 z ok hz => ?_
  obtain ⟨P3, R3⟩ := ok.fin S P1
  obtain ⟨ρ2, e3, h3⟩ := some!_ok hz
  obtain ⟨M4, P4⟩ := store_ok (i := i) S P3 R3 e3
  exact l.nx M4 _ H3 ρ2 P4 h3⟩
/-- a result made ready to wait -/
def ripe (ρ : Ev) : RV → Option (RV × Ev)
  | .o i => match settle ρ (.o i) with
    | some (x, ρ1) => some (.d x, ρ1)
    | none => none
  | r => some (r, ρ)
theorem ripe_ok {K : PySem.W.Frag} {p0 : Amb} {M : Addr → Prop} {σ : L2.St} {H H0 : Hp} {ρ ρ' : Ev} {v : V} {r s : RV} (S : Sim K p0 M σ H ρ) (R : RVok K M σ ρ H0 H v r) (e : ripe ρ r = some (s, ρ')) :
    ∃ M', Post K p0 M σ H ρ M' σ H ρ' ∧ Slots ρ ρ' ∧ RVok K M' σ ρ' H0 H v s ∧ ∀ k, s ≠ .o k := by
  cases r with
  | d x => cases e; exact ⟨M, Post.refl S, Slots.refl ρ, R, fun k z => nomatch z⟩
  | n x => cases e; exact ⟨M, Post.refl S, Slots.refl ρ, R, fun k z => nomatch z⟩
  | o i =>
    unfold ripe at e
    simp only at e
    split at e
    · rename_i x ρ1 e1
      cases e
      obtain ⟨M', P, Sl, R'⟩ := settle_ok S R (fun y z => nomatch z) e1
      exact ⟨M', P, Sl, RVok.dd R', fun k z => nomatch z⟩
    · cases e
/-- r is stored while s waits: s came behind r -/
theorem store_wait {K : PySem.W.Frag} {p0 : Amb} {M0 M : Addr → Prop} {σ0 σ : L2.St} {H0 H1 H : Hp} {ρ0 ρ ρ' : Ev} {i : Nat} {u v : V} {r s : RV} (S0 : Sim K p0 M0 σ0 H0 ρ0) (P : Post K p0 M0 σ0 H0 ρ0 M σ H ρ)
    (R : RVok K M σ ρ H0 H u r) (T : RVok K M σ ρ H1 H v s) (nk : ∀ k, s ≠ .o k) (fr : ∀ a, u = .ref a → (∃ x, r = .n x) → H1 a ≠ none) (e : store i ρ r = some ρ') :
    ∃ M', Post K p0 M0 σ0 H0 ρ0 M' (σ.set i (some u)) H ρ' ∧ RVok K M' (σ.set i (some u)) ρ' H1 H v s := by
  have cold : ∀ (R' : RVok K M σ ρ H H u r), ∃ M', Post K p0 M0 σ0 H0 ρ0 M' (σ.set i (some u)) H ρ' ∧ RVok K M' (σ.set i (some u)) ρ' H1 H v s := fun R' => by
    obtain ⟨M', P'⟩ := store_ok (i := i) P.sim (Post.refl P.sim) R' e
    refine ⟨M', P.trans S0 P', ?_⟩
    cases s with
    | d x => exact Rep.keep (P'.keep P.sim) T
    | n x =>
      obtain ⟨p, rfl, m, nw, f, o⟩ := T
      exact ⟨p, rfl, P'.step.kp p m nw, fun z => (P'.wr p z).elim nw o.some, f, o.keep (P'.keep P.sim) fun _ z _ => z⟩
    | o k => exact absurd rfl (nk k)
  cases r with
  | d x => exact cold R
  | o k => exact cold R
  | n x =>
    cases e
    obtain ⟨p, rfl, m, nw, f, o⟩ := R
    obtain ⟨S1, w1⟩ := store_ow (i := i) P.sim m nw o (fun z => S0.p0k p z f) (fun _ _ => trivial)
    refine ⟨M, ⟨S1, P.step, fun a h => ?_⟩, ?_⟩
    · rcases w1 a h with h | h
      · exact P.wr a h
      · exact .inr (h ▸ f)
    · cases s with
      | d x => exact T
      | n y =>
        obtain ⟨p2, rfl, m2, nw2, f2, o2⟩ := T
        refine ⟨p2, rfl, m2, fun z => ?_, f2, o2⟩
        rcases w1 p2 z with h | h
        · exact nw2 h
        · exact fr p rfl ⟨x, rfl⟩ (h ▸ f2)
      | o k => exact absurd rfl (nk k)
/-- a, b = e1, e2 of plain local names -/
def sPar (i j : Nat) (ta tb : ET) : ST := fun e ρ => ta ρ (fun r ρ1 => tb ρ1 (fun s ρ2 => some! (ripe ρ2 s) fun z => some! (store i z.2 r) fun ρ3 => some! (store j ρ3 z.1) e.nx) e.xc) e.xc
variable {a b c : Expr} {ta tb tc : ET}
theorem n_there {K : PySem.W.Frag} {M : Addr → Prop} {σ : L2.St} {ρ : Ev} {H0 H : Hp} {u : V} {r : RV} (R : RVok K M σ ρ H0 H u r) : ∀ a, u = .ref a → (∃ x, r = .n x) → H a ≠ none := fun a e ⟨x, hx⟩ => by
  subst hx
  obtain ⟨p, e', _, _, _, o⟩ := R
  rw [e] at e'
  cases e'
  exact o.some
theorem ds_par {i j : Nat} {x y : Str} {px py pt : Pos} {kt k2 pt2} (hc : X.calm = true) (hN : X.N.Nodup) (hi : X.N[i]? = some x) (hj : X.N[j]? = some y) (hij : i ≠ j)
    (hx : X.env.scope.names.lookup x = some .local) (hy : X.env.scope.names.lookup y = some .local) (ha : DE X p W a ta) (hb : DE X p W b tb)
    (hw : swappedStores [.Tuple [.Name x px, .Name y py] kt pt] (.Tuple [a, b] k2 pt2) X.env = pure (some [x, y]))
    (hsa : starEach (a :: [b]) X.env = (false, eval a X.env) :: starEach [b] X.env := by rfl) (hsb : starEach (b :: []) X.env = (false, eval b X.env) :: starEach [] X.env := by rfl)
    (hs : swapsWithSole [.Tuple [.Name x px, .Name y py] kt pt] (.Tuple [a, b] k2 pt2) pos.line X.env = pure false := by rfl) :
    DS X p W (.Assign [.Tuple [.Name x px, .Name y py] kt pt] (.Tuple [a, b] k2 pt2) pos) (sPar i j ta tb) := ⟨PS.imp (ps_par hc hN hi hj hij hx hy (pa_cons ha.pe (pa_cons hb.pe pa_nil hsb) hsa) hw hs) fun D σ H ⟨M, ρ, e, S, h, l⟩ => by
  refine ⟨M, ρ, _, _, S, h, fun v M1 H1 ρ1 r P1 S1 R1 h1 => ?_, fun c M1 H1 ρ1 P1 h1 => l.xc c M1 σ H1 ρ1 P1 h1⟩
  refine ⟨M1, ρ1, _, _, P1.sim, h1, fun u M2 H2 ρ2 s P2 S2 R2 h2 => ?_, fun c M2 H2 ρ2 P2 h2 => l.xc c M2 σ H2 ρ2 (P1.trans S P2) h2⟩
  obtain ⟨⟨s', ρ3⟩, e1, h3⟩ := some!_ok h2
  obtain ⟨M3, P3, S3, R3, nk⟩ := ripe_ok P2.sim R2 e1
  obtain ⟨ρ4, e2, h4⟩ := some!_ok h3
  have Ra := (R1.post P1.sim P2 S2).post P2.sim P3 S3
  obtain ⟨M4, P4, R4⟩ := store_wait (i := i) S ((P1.trans S P2).trans S P3) Ra R3 nk (n_there R1) e2
  obtain ⟨ρ5, e3, h5⟩ := some!_ok h4
  have R4' : RVok X.K M4 (σ.set i (some v)) ρ4 H H2 u s' := R4.back P1.step.dom
  obtain ⟨M5, P5⟩ := store_ok (i := j) S P4 R4' e3
  exact ⟨v, u, rfl, l.nx M5 _ H2 ρ5 P5 h5⟩⟩
end
end DL

set_option Elab.async false
set_option linter.all false
set_option maxRecDepth 100000
set_option maxHeartbeats 4000000
namespace DL
open PySem PySem.Spec PyProof.Rows L2

/-! ### targets -/
abbrev GT := D → Ev → (Ev → Prop) → Prop
abbrev GTs := List D → Ev → (Ev → Prop) → Prop
/-- the slots but those of sl stand -/
def But (sl : List Nat) (σ σ' : L2.St) : Prop := σ'.length = σ.length ∧ ∀ j, j ∉ sl → σ'[j]? = σ[j]?
theorem But.trans {a b : List Nat} {σ σ1 σ2 : L2.St} (h : But a σ σ1) (k : But b σ1 σ2) : But (a ++ b) σ σ2 := ⟨k.1.trans h.1, fun j hj => (k.2 j fun z => hj (List.mem_append_right _ z)).trans (h.2 j fun z => hj (List.mem_append_left _ z))⟩
def liftG (K : PySem.W.Frag) (p0 : Amb) (sl : List Nat) (g : GT) : TG := fun v σ H Q => ∃ (M : Addr → Prop) (ρ : Ev) (d : D) (q : Ev → Prop), Sim K p0 M σ H ρ ∧ Rep K M H v d ∧ g d ρ q ∧ ∀ M' σ' H' ρ', Post K p0 M σ H ρ M' σ' H' ρ' → But sl σ σ' → q ρ' → Q σ' H'
def liftGs (K : PySem.W.Frag) (p0 : Amb) (sl : List Nat) (g : GTs) : TGs := fun vs σ H Q => ∃ (M : Addr → Prop) (ρ : Ev) (ds : List D) (q : Ev → Prop), Sim K p0 M σ H ρ ∧ RepL K M H vs ds ∧ g ds ρ q ∧ ∀ M' σ' H' ρ', Post K p0 M σ H ρ M' σ' H' ρ' → But sl σ σ' → q ρ' → Q σ' H'
structure DG (X : Cx) (p0 : Amb) (tg : Expr) (sl : List Nat) (g : GT) : Prop where
  pg : PG X tg (liftG X.K p0 sl g)
structure DGs (X : Cx) (p0 : Amb) (tg : List Expr) (sl : List Nat) (g : GTs) : Prop where
  pgs : PGs X tg (liftGs X.K p0 sl g)
theorem PG.imp {X : Cx} {e : Expr} {t u : TG} (h : PG X e t) (i : ∀ v σ H Q, u v σ H Q → t v σ H Q) : PG X e u := ⟨fun pins s σ H v w Q I r hu => h.run pins s σ H v w Q I r (i v σ H Q hu)⟩
theorem PGs.imp {X : Cx} {e : List Expr} {t u : TGs} (h : PGs X e t) (i : ∀ v σ H Q, u v σ H Q → t v σ H Q) : PGs X e u := ⟨fun pins s σ H v w Q I r hu => h.run pins s σ H v w Q I r (i v σ H Q hu)⟩
section
variable {X : Cx} {p : Amb} {W : WX} {pos : Pos} {e : Expr} {es : List Expr}
def gVar (i : Nat) : GT := fun d ρ q => q (ρ.set i (.va d))
theorem dg_name {i : Nat} {x : Str} (hN : X.N.Nodup) (hi : X.N[i]? = some x) (hx : Loc X.env.scope x) (hf : X.fn x = true ∨ X.env.scope.names.lookup x = some .local := by first | exact .inl rfl | exact .inr rfl | assumption) : DG X p (.Name x pos) [i] (gVar i) :=
  ⟨PG.imp (pg_name hN hi hx hf) fun v σ H Q ⟨M, ρ, d, q, S, R, h, k⟩ => k M _ H _ (store_va S R) ⟨List.length_set, fun j hj => List.getElem?_set_ne fun z => hj (by rw [z]; exact List.mem_singleton_self j)⟩ h⟩
def gsNil : GTs := fun ds ρ q => match ds with
  | [] => q ρ
  | _ => False
def gsCons (g : GT) (gs : GTs) : GTs := fun ds ρ q => match ds with
  | x :: xs => g x ρ fun ρ' => gs xs ρ' q
  | _ => False
theorem dgs_nil : DGs X p [] [] gsNil := ⟨PGs.imp pgs_nil fun v σ H Q ⟨M, ρ, ds, q, S, R, h, k⟩ => by
  cases R with
  | nil => exact ⟨rfl, k M σ H ρ (Post.refl S) ⟨rfl, fun _ _ => rfl⟩ h⟩
  | cons _ _ => exact h.elim⟩
theorem dgs_cons {g : GT} {gs : GTs} {sl sls : List Nat} (h1 : DG X p e sl g) (h2 : DGs X p es sls gs) (hs : (assignEach (e :: es) X.env).map (·.2) = assign e X.env :: (assignEach es X.env).map (·.2) := by rfl) : DGs X p (e :: es) (sl ++ sls) (gsCons g gs) :=
  ⟨PGs.imp (pgs_cons h1.pg h2.pgs hs) fun v σ H Q ⟨M, ρ, ds, q, S, R, h, k⟩ => by
    cases R with
    | nil => exact h.elim
    | cons r rs =>
      refine ⟨_, _, rfl, M, ρ, _, _, S, r, h, fun M1 σ1 H1 ρ1 P1 B1 h1 => ?_⟩
      exact ⟨M1, ρ1, _, q, P1.sim, rs.keep (P1.keep S), h1, fun M2 σ2 H2 ρ2 P2 B2 h2 => k M2 σ2 H2 ρ2 (P1.trans S P2) (B1.trans B2) h2⟩⟩
def gTupD (n : Nat) (gs : GTs) : GT := fun d ρ q => match d with
  | .tup ds => ds.length = n ∧ gs ds ρ q
  | _ => False
theorem dg_tup {k : Nat} {gs : GTs} {n : Nat} {sl : List Nat} (hc : X.calm = true) (h : DGs X p es sl gs)
    (hn : (assignEach es X.env).length = n := by rfl) (hst : (assignEach es X.env).findIdx? (·.1) = none := by rfl) : DG X p (.Tuple es k pos) sl (gTupD n gs) :=
  ⟨PG.imp (pg_tup hc h.pgs hn hst) fun v σ H Q ⟨M, ρ, d, q, S, R, h, k⟩ => by
    cases R with
    | tup s r => exact ⟨_, _, rfl, s.sq, by rw [r.length]; exact h.1, M, ρ, _, q, S, r, h.2, k⟩
    | _ => exact h.elim⟩
/-- o[i] = .., o the slot's own list -/
def gSetL (to ti : ET) : GT := fun d ρ q => to ρ (fun r ρ1 => ti ρ1 (fun s ρ2 => some! (ownL ρ2 r) fun a => some! (intR ρ2 s) fun k => some! (ixN a.2.length k) fun j => q (put a.1 (.lst (a.2.set j d)) ρ2)) fun _ _ => False) fun _ _ => False
theorem dg_setL {o i : Expr} {to ti : ET} (ho : DE X p (fun _ _ _ _ => False) o to) (hi : DE X p (fun _ _ _ _ => False) i ti)
    (ha : ∀ v, assign (.Subscript o i pos) X.env v = (do
      let ov ← holding [v] (eval o X.env)
      let iv ← holding [v, ov] (eval i X.env)
      standAt pos
      holding [v, ov, iv] (setItem ov iv v)
      release [v, ov, iv] []) := by intro _; rfl) : DG X p (.Subscript o i pos) [] (gSetL to ti) :=
  ⟨PG.imp (pg_sub ho.pe hi.pe set_list ha) fun v σ H Q ⟨M, ρ, d, q, S, R, h, k⟩ => by
    refine ⟨M, ρ, _, _, S, h, fun vo M1 H1 ρ1 r1 P1 S1 R1 h1 => ?_, fun c M1 H1 ρ1 P1 h1 => h1⟩
    refine ⟨M1, ρ1, _, _, P1.sim, h1, fun vi M2 H2 ρ2 r2 P2 S2 R2 h2 => ?_, fun c M2 H2 ρ2 P2 h2 => h2⟩
    obtain ⟨⟨n, xs⟩, e1, h3⟩ := some!_ok h2
    obtain ⟨rfl, eo⟩ := ownL_ok e1
    obtain ⟨j, e2, h4⟩ := some!_ok h3
    obtain ⟨l, e3, h5⟩ := some!_ok h4
    obtain ⟨a, hs1, m1, ⟨vs0, hv0, r0⟩, w1⟩ := own_at P2.sim eo
    obtain rfl : vo = .ref a := by
      have z := R1.1
      rw [hs1] at z
      cases z
      rfl
    have P12 := P1.trans S P2
    refine ⟨a, vs0, j, l, rfl, (rd_ok P2.sim R2 (intR_ok e2)).int, hv0, by rw [r0.length]; exact e3, ?_⟩
    have kk : Keep M2 H2 M2 (upd H2 a (.lst (vs0.set l v))) := ⟨fun b w e n _ => ⟨.inl (by rw [upd_cold m1 n]; exact e), n⟩, fun b xs e => (upd_ne (fun z => by rw [z, hv0] at e; cases e)).trans e⟩
    have P4 := mut_ok P2.sim eo hs1 (o := .lst (vs0.set l v)) (y := .lst (xs.set l d)) ⟨_, upd_same, (r0.keep kk).set _ ((R.keep (P12.keep S)).keep kk)⟩
    exact k _ _ _ _ (P12.trans S P4) ⟨rfl, fun _ _ => rfl⟩ h5⟩
/-- target = e -/
def sAsg (te : ET) (g : GT) : ST := fun e ρ => te ρ (fun r ρ1 => some! (settle ρ1 r) fun z => g z.1 z.2 e.nx) e.xc
theorem ds_asg {tg : Expr} {te : ET} {g : GT} {sl : List Nat} (he : DE X p W e te) (hg : DG X p tg sl g) (hs : swapsWithSole [tg] e pos.line X.env = pure false := by rfl) (hw : swappedStores [tg] e X.env = pure none := by rfl)
    (h1 : (assignEach [tg] X.env).map (·.2) = [assign tg X.env] := by rfl) : DS X p W (.Assign [tg] e pos) (sAsg te g) := ⟨PS.imp (ps_asg he.pe hg.pg hs hw h1) fun D σ H ⟨M, ρ, e, S, h, l⟩ => by
  refine ⟨M, ρ, _, _, S, h, fun v M1 H1 ρ1 r P1 S1 R1 h1 => ?_, fun c M1 H1 ρ1 P1 h1 => l.xc c M1 σ H1 ρ1 P1 h1⟩
  obtain ⟨⟨x, ρ2⟩, e1, h2⟩ := some!_ok h1
  obtain ⟨M2, P2, S2, R2⟩ := settleN_ok S P1 R1 e1
  exact ⟨M2, ρ2, x, _, P2.sim, R2, h2, fun M3 σ3 H3 ρ3 P3 _ h3 => l.nx M3 σ3 H3 ρ3 (P2.trans S P3) h3⟩⟩
end

/-! ### what is walked -/
abbrev IT := Ev → (List D → Ev → Prop) → XQ → Prop
/-- it yields the data ds, whatever is laid meanwhile -/
def ItOk (K : PySem.W.Frag) (M : Addr → Prop) (H : Hp) (J : It) (ds : List D) : Prop := ∀ (M' : Addr → Prop) (H' : Hp), Keep M H M' H' → (∀ q, M' q → H' q ≠ none) →
  (∀ (i : Nat) (d : D), ds[i]? = some d → J.go i H' ∧ ∀ x H'', J.yld i H' x H'' → ∃ M'', Step M' Nil H' M'' H'' ∧ (∀ q, M'' q → H'' q ≠ none) ∧ Rep K M'' H'' x d) ∧ J.stop ds.length H'
def liftI (K : PySem.W.Frag) (p0 : Amb) (W : WX) (t : IT) : TI := fun σ H R => ∃ (M : Addr → Prop) (ρ : Ev) (q : List D → Ev → Prop) (x : XQ), Sim K p0 M σ H ρ ∧ t ρ q x ∧
  (∀ J M' H' ρ' ds, Post K p0 M σ H ρ M' σ H' ρ' → ItOk K M' H' J ds → q ds ρ' → R J H') ∧
  (∀ c M' H' ρ', Post K p0 M σ H ρ M' σ H' ρ' → x c ρ' → W (.ref c) none σ H')
structure DI (X : Cx) (p0 : Amb) (W : WX) (tg iter : Expr) (t : IT) : Prop where
  pi : PI X tg iter (liftI X.K p0 W t)
theorem PI.imp {X : Cx} {tg e : Expr} {t u : TI} (h : PI X tg e t) (i : ∀ σ H Q, u σ H Q → t σ H Q) : PI X tg e u := ⟨fun pins s σ H Q I hu => h.run pins s σ H Q I (i σ H Q hu)⟩
section
variable {X : Cx} {p : Amb} {W : WX} {tg : Expr}
/-- a list or a tuple -/
def iSeq (K : PySem.W.Frag) (tl : TE) : TI := fun σ H R => tl σ H fun x H1 => ∃ a, x = .ref a ∧ (((∃ xs, SqL K H1 a xs) ∧ R (Itl K a) H1) ∨ ((∃ xs, SqT K H1 a xs) ∧ R (Itt K a) H1))
theorem pi_seq {l : Expr} {tl : TE} (hl : PE X l tl) : PI X tg l (iSeq X.K tl) := ⟨fun pins s σ H R I h => thn (hl.run pins s σ H _ I h) fun u s1 hu => by
  obtain ⟨x, G, J, rx, a, rfl, hq | hq⟩ := hu
  · obtain ⟨⟨xs, hx⟩, q⟩ := hq
    cases rx
    obtain ⟨us, vu, pl, _⟩ := J.list hx
    refine wpAny_pyIter_list pl.isList ⟨_, [s1.heap.objs.size], _, _, G, rfl, J.kept (t' := s1.toks) (fun b w z => Heap.get?_push_of_some _ z), turn_list a _, ⟨_, Heap.get?_push_size _ rfl, rfl, rfl⟩, fun b hb => ?_, q⟩
    rw [List.mem_singleton.mp hb]
    exact J.fpOk (Nat.le_refl _) J.fresh
  · obtain ⟨⟨xs, hx⟩, q⟩ := hq
    cases rx
    obtain ⟨us, vu, pl, _⟩ := J.tuple hx
    refine wpAny_pyIter_tuple (show s1.heap.IsTuple a us.toArray from pl) ⟨_, [s1.heap.objs.size], _, _, G, rfl, J.kept (t' := s1.toks) (fun b w z => Heap.get?_push_of_some _ z), turn_tuple a _, ⟨_, Heap.get?_push_size _ rfl, rfl, rfl⟩, fun b hb => ?_, q⟩
    rw [List.mem_singleton.mp hb]
    exact J.fpOk (Nat.le_refl _) J.fresh⟩
def seqS : D → Option (List D)
  | .lst ds => some ds
  | .tup ds => some ds
  | .st ds => some ds
  | .fz ds => some ds
  | _ => none
def iSeqD (te : ET) : IT := fun ρ q x => te ρ (fun r ρ1 => some! (settle ρ1 r) fun z => some! (seqS z.1) fun ds => q ds z.2) x
theorem it_list {K : PySem.W.Frag} {M : Addr → Prop} {H : Hp} {a : Addr} {vs : List V} {ds : List D} {o : HO} (ho : H a = some o) (nt : ∀ ps, o ≠ HO.tbl ps) (nd : ¬ Dk o) (n : ¬ M a) (hs : ∀ H' : Hp, H' a = some o → SqL K H' a vs) (r : RepL K M H vs ds) : ItOk K M H (Itl K a) ds := fun M' H' k mok => by
  have h1 : SqL K H' a vs := hs H' ((k.c a o ho n nt).1.eq nd)
  refine ⟨fun i d hi => ?_, vs, h1, by rw [r.length]; exact Nat.le_refl _⟩
  obtain ⟨u, eu, ru⟩ := r.get hi
  refine ⟨⟨vs, u, h1, eu⟩, fun x H'' y => ?_⟩
  obtain ⟨e, f⟩ := y
  subst e
  have eq : x = u := Option.some.inj ((f vs h1).symm.trans eu)
  subst eq
  exact ⟨M', Step.refl, mok, ru.keep k⟩
theorem it_fz {K : PySem.W.Frag} {M : Addr → Prop} {H : Hp} {a : Addr} {vs : List V} {ds : List D} (h : SqLM K M H a vs) (r : RepL K M H vs ds) : ItOk K M H (Itl K a) ds := fun M' H' k mok => by
  have h1 : SqL K H' a vs := (h.keep k).sq
  refine ⟨fun i d hi => ?_, vs, h1, by rw [r.length]; exact Nat.le_refl _⟩
  obtain ⟨u, eu, ru⟩ := r.get hi
  refine ⟨⟨vs, u, h1, eu⟩, fun x H'' y => ?_⟩
  obtain ⟨e, f⟩ := y
  subst e
  have eq : x = u := Option.some.inj ((f vs h1).symm.trans eu)
  subst eq
  exact ⟨M', Step.refl, mok, ru.keep k⟩
theorem it_tup {K : PySem.W.Frag} {M : Addr → Prop} {H : Hp} {a : Addr} {vs : List V} {ds : List D} (h : SqTM K M H a vs) (r : RepL K M H vs ds) : ItOk K M H (Itt K a) ds := fun M' H' k mok => by
  have h1 : SqT K H' a vs := (h.keep k).sq
  refine ⟨fun i d hi => ?_, vs, h1, by rw [r.length]; exact Nat.le_refl _⟩
  obtain ⟨u, eu, ru⟩ := r.get hi
  refine ⟨⟨vs, u, h1, eu⟩, fun x H'' y => ?_⟩
  obtain ⟨e, f⟩ := y
  subst e
  have eq : x = u := Option.some.inj ((f vs h1).symm.trans eu)
  subst eq
  exact ⟨M', Step.refl, mok, ru.keep k⟩
theorem it_st {K : PySem.W.Frag} {M : Addr → Prop} {H : Hp} {a : Addr} {vs : List V} {ds : List D} (h : SqTS K a vs) (r : RepL K M H vs ds) : ItOk K M H (Itt K a) ds := fun M' H' k mok => by
  have h1 : SqT K H' a vs := SqTS.sq h
  refine ⟨fun i d hi => ?_, vs, h1, by rw [r.length]; exact Nat.le_refl _⟩
  obtain ⟨u, eu, ru⟩ := r.get hi
  refine ⟨⟨vs, u, h1, eu⟩, fun x H'' y => ?_⟩
  obtain ⟨e, f⟩ := y
  subst e
  have eq : x = u := Option.some.inj ((f vs h1).symm.trans eu)
  subst eq
  exact ⟨M', Step.refl, mok, ru.keep k⟩
theorem di_seq {l : Expr} {te : ET} (he : DE X p W l te) : DI X p W tg l (iSeqD te) := ⟨PI.imp (pi_seq he.pe) fun σ H R ⟨M, ρ, q, xq, S, h, hq, hx⟩ => by
  refine ⟨M, ρ, _, _, S, h, fun v M1 H1 ρ1 r P1 S1 R1 h1 => ?_, hx⟩
  obtain ⟨⟨d, ρ2⟩, e1, h2⟩ := some!_ok h1
  obtain ⟨M2, P2, S2, R2⟩ := settleN_ok S P1 R1 e1
  obtain ⟨ds, e2, h3⟩ := some!_ok h2
  cases R2 with
  | lst hl n r =>
    cases e2
    exact ⟨_, rfl, .inl ⟨⟨_, SqL.of hl⟩, hq _ M2 H1 ρ2 _ P2 (it_list hl (fun _ z => nomatch z) (fun z => z) n (fun H' e => SqL.of e) r) h3⟩⟩
  | fz hl r =>
    cases e2
    exact ⟨_, rfl, .inl ⟨⟨_, hl.sq⟩, hq _ M2 H1 ρ2 _ P2 (it_fz hl r) h3⟩⟩
  | tup hl r =>
    cases e2
    exact ⟨_, rfl, .inr ⟨⟨_, hl.sq⟩, hq _ M2 H1 ρ2 _ P2 (it_tup hl r) h3⟩⟩
  | st hl r =>
    cases e2
    exact ⟨_, rfl, .inr ⟨⟨_, SqTS.sq hl⟩, hq _ M2 H1 ρ2 _ P2 (it_st hl r) h3⟩⟩
  | _ => cases e2⟩
/-- ranges -/
def rngD (lo : Int) (n : Nat) : List D := (List.range n).map fun (i : Nat) => D.int (lo + (i : Int))
theorem it_range {K : PySem.W.Frag} {M : Addr → Prop} {H : Hp} (lo : Int) (n : Nat) : ItOk K M H (Itr lo n) (rngD lo n) := fun M' H' k mok => by
  refine ⟨fun i d hi => ?_, by unfold rngD; rw [List.length_map, List.length_range]; exact Nat.le_refl n⟩
  unfold rngD at hi
  rw [List.getElem?_map] at hi
  cases e : (List.range n)[i]? with
  | none => rw [e] at hi; cases hi
  | some j =>
    rw [e] at hi
    cases hi
    obtain ⟨hl, ej⟩ := List.getElem?_eq_some_iff.mp e
    rw [List.getElem_range] at ej
    subst ej
    rw [List.length_range] at hl
    refine ⟨hl, fun x H'' y => ?_⟩
    obtain ⟨rfl, rfl⟩ := y
    exact ⟨M', Step.refl, mok, .int _⟩
theorem rvInt1 {K : PySem.W.Frag} {M : Addr → Prop} {σ : L2.St} {ρ : Ev} {H0 H : Hp} {vs : List V} {i : Int} (R : RVsOk K M σ ρ H0 H vs [.d (.int i)]) : vs = [.int i] := by
  cases R with | cons a _ b =>
    cases b
    cases a with | int _ => rfl
theorem rvInt2 {K : PySem.W.Frag} {M : Addr → Prop} {σ : L2.St} {ρ : Ev} {H0 H : Hp} {vs : List V} {i j : Int} (R : RVsOk K M σ ρ H0 H vs [.d (.int i), .d (.int j)]) : vs = [.int i, .int j] := by
  cases R with | cons a _ b =>
    cases a with | int _ => rw [rvInt1 b]
theorem rvInt3 {K : PySem.W.Frag} {M : Addr → Prop} {σ : L2.St} {ρ : Ev} {H0 H : Hp} {vs : List V} {i j k : Int} (R : RVsOk K M σ ρ H0 H vs [.d (.int i), .d (.int j), .d (.int k)]) : vs = [.int i, .int j, .int k] := by
  cases R with | cons a _ b =>
    cases a with | int _ => rw [rvInt2 b]
def iR1 (ta : AT) : IT := fun ρ q x => ta ρ (fun rs ρ1 => match rs with
  | [.d (.int j)] => -(2 ^ 62) ≤ j ∧ j < 2 ^ 62 ∧ q (rngD 0 j.toNat) ρ1
  | _ => False) x
def iR2 (ta : AT) : IT := fun ρ q x => ta ρ (fun rs ρ1 => match rs with
  | [.d (.int i), .d (.int j)] => (-(2 ^ 62) ≤ i ∧ i < 2 ^ 62 ∧ -(2 ^ 62) ≤ j ∧ j < 2 ^ 62) ∧ q (rngD i (j - i).toNat) ρ1
  | _ => False) x
/-- a step: how many, and which -/
def rngC (lo c : Int) (n : Nat) : List D := (List.range n).map fun (i : Nat) => D.int (lo + (i : Int) * c)
def iR3 (ta : AT) : IT := fun ρ q x => ta ρ (fun rs ρ1 => match rs with
  | [.d (.int i), .d (.int j), .d (.int c)] => ∃ n, RgC i j c n ∧ q (rngC i c n) ρ1
  | _ => False) x
theorem it_rangeC {K : PySem.W.Frag} {M : Addr → Prop} {H : Hp} (lo c : Int) (n : Nat) : ItOk K M H (Itc lo c n) (rngC lo c n) := fun M' H' k mok => by
  refine ⟨fun i d hi => ?_, by unfold rngC; rw [List.length_map, List.length_range]; exact Nat.le_refl n⟩
  unfold rngC at hi
  rw [List.getElem?_map] at hi
  cases e : (List.range n)[i]? with
  | none => rw [e] at hi; cases hi
  | some j =>
    rw [e] at hi
    cases hi
    obtain ⟨hl, ej⟩ := List.getElem?_eq_some_iff.mp e
    rw [List.getElem_range] at ej
    subst ej
    rw [List.length_range] at hl
    refine ⟨hl, fun x H'' y => ?_⟩
    obtain ⟨rfl, rfl⟩ := y
    exact ⟨M', Step.refl, mok, .int _⟩
theorem di_range1 {a : Expr} {ta : AT} {pp pos : Pos} (hm : X.mg "range" = none) (ha : DA X p W [a] ta) (hg : Gl X "range" := by rfl) (hs : starEach [a] X.env = [(false, eval a X.env)] := by rfl) : DI X p W tg (.Call (.Name "range" pp) [a] [] pos) (iR1 ta) :=
  ⟨PI.imp (pi_range1 hg hm ha.pa hs) fun σ H R ⟨M, ρ, q, xq, S, h, hq, hx⟩ => by
    refine ⟨M, ρ, _, _, S, h, fun vs M1 H1 ρ1 rs P1 S1 R1 h1 => ?_, hx⟩
    split at h1
    · rename_i j
      exact ⟨j, rvInt1 R1, h1.1, h1.2.1, hq _ M1 H1 ρ1 _ P1 (it_range 0 j.toNat) h1.2.2⟩
    · exact h1.elim⟩
theorem di_range2 {a b : Expr} {ta : AT} {pp pos : Pos} (hm : X.mg "range" = none) (ha : DA X p W [a, b] ta) (hg : Gl X "range" := by rfl) (hs : starEach [a, b] X.env = [(false, eval a X.env), (false, eval b X.env)] := by rfl) (hs2 : starEach [b] X.env = [(false, eval b X.env)] := by rfl) :
    DI X p W tg (.Call (.Name "range" pp) [a, b] [] pos) (iR2 ta) :=
  ⟨PI.imp (pi_range2 hg hm ha.pa hs hs2) fun σ H R ⟨M, ρ, q, xq, S, h, hq, hx⟩ => by
    refine ⟨M, ρ, _, _, S, h, fun vs M1 H1 ρ1 rs P1 S1 R1 h1 => ?_, hx⟩
    split at h1
    · rename_i i j
      exact ⟨i, j, rvInt2 R1, h1.1, hq _ M1 H1 ρ1 _ P1 (it_range i _) h1.2⟩
    · exact h1.elim⟩
theorem di_range3 {a b c : Expr} {ta : AT} {pp pos : Pos} (hm : X.mg "range" = none) (ha : DA X p W [a, b, c] ta) (hg : Gl X "range" := by rfl)
    (hs : starEach [a, b, c] X.env = (false, eval a X.env) :: starEach [b, c] X.env := by rfl) (hpl : (backTo pos (starEach [b, c] X.env)).any (·.1) = false := by rfl) :
    DI X p W tg (.Call (.Name "range" pp) [a, b, c] [] pos) (iR3 ta) :=
  ⟨PI.imp (pi_range3 hg hm ha.pa hs hpl) fun σ H R ⟨M, ρ, q, xq, S, h, hq, hx⟩ => by
    refine ⟨M, ρ, _, _, S, h, fun vs M1 H1 ρ1 rs P1 S1 R1 h1 => ?_, hx⟩
    split at h1
    · rename_i i j c
      obtain ⟨n, hn, h2⟩ := h1
      exact ⟨i, j, c, n, rvInt3 R1, hn, hq _ M1 H1 ρ1 _ P1 (it_rangeC i c n) h2⟩
    · exact h1.elim⟩
end

/-! ### while, for -/
section
variable {X : Cx} {p : Amb} {W : WX} {pos : Pos}
def sWhile (c : BT) (tb : ST) : ST := fun e ρ => ∃ P : Nat → Ev → Prop, (∃ m, P m ρ) ∧ ∀ m ρ, P m ρ →
  c ρ (fun b ρ1 => if b = true then tb { e with nx := fun ρ2 => ∃ m', m' < m ∧ P m' ρ2, ct := fun ρ2 => ∃ m', m' < m ∧ P m' ρ2, bk := e.nx } ρ1 else e.nx ρ1) e.xc
theorem ds_while {c : Expr} {body : List Stmt} {tc : BT} {tb : ST} (hp : PassesOwn (model X.prog X.w) X.A X.env X.xe) (hc : DB X p W c tc) (hb : DSs X p W body tb) : DS X p W (.While c body [] pos) (sWhile tc tb) :=
  ⟨PS.imp (ps_while hp hc.pt hb.pss) fun D σ H ⟨M, ρ, e, S, ⟨P, ⟨m0, w0⟩, turn⟩, l⟩ => by
    refine ⟨fun m σ' H' => ∃ M' ρ', Post X.K p M σ H ρ M' σ' H' ρ' ∧ P m ρ', ⟨m0, M, ρ, Post.refl S, w0⟩, fun m σ1 H1 ⟨M1, ρ1, P1, w1⟩ => ?_⟩
    refine ⟨M1, ρ1, _, _, P1.sim, turn m ρ1 w1, fun k M2 H2 ρ2 P2 S2 h2 => ?_, fun c M2 H2 ρ2 P2 h2 => l.xc c M2 σ1 H2 ρ2 (P1.trans S P2) h2⟩
    have P12 := P1.trans S P2
    cases k with
    | true =>
      rw [if_pos rfl] at h2
      refine iteT ?_
      refine ⟨fun σ' H' => ∃ m', m' < m ∧ ∃ M' ρ', Post X.K p M σ H ρ M' σ' H' ρ' ∧ P m' ρ', fun σ' H' ⟨m', hm, z⟩ => ⟨m', hm, z⟩, M2, ρ2, _, P2.sim, h2, ?_⟩
      have l2 := l.after S P12
      exact ⟨fun M3 σ3 H3 ρ3 P3 ⟨m', hm, w⟩ => ⟨m', hm, M3, ρ3, P12.trans S P3, w⟩, fun M3 σ3 H3 ρ3 P3 h => l2.nx M3 σ3 H3 ρ3 P3 h, fun M3 σ3 H3 ρ3 P3 ⟨m', hm, w⟩ => ⟨m', hm, M3, ρ3, P12.trans S P3, w⟩, l2.rt, l2.xc⟩
    | false =>
      rw [if_neg Bool.false_ne_true] at h2
      refine iteF ?_
      exact l.nx M2 σ1 H2 ρ2 P12 h2⟩
def sFor (ti : IT) (g : GT) (tb : ST) : ST := fun e ρ => ti ρ (fun ds ρ1 => ∃ P : Nat → Ev → Prop, P 0 ρ1 ∧ (∀ i d ρ, ds[i]? = some d → P i ρ → g d ρ fun ρ2 => tb { e with nx := P (i + 1), ct := P (i + 1), bk := e.nx } ρ2) ∧ (∀ ρ, P ds.length ρ → e.nx ρ)) e.xc
theorem ds_for {tg iter : Expr} {body : List Stmt} {ti : IT} {g : GT} {tb : ST} {sl : List Nat} (hp : PassesOwn (model X.prog X.w) X.A X.env X.xe) (hc : X.calm = true) (hi : DI X p W tg iter ti) (hg : DG X p tg sl g) (hb : DSs X p W body tb)
    (hs : ∀ x, foldedSetIterable iter X.env x = pure x := by intro _; rfl) : DS X p W (.For tg iter body [] pos) (sFor ti g tb) :=
  ⟨PS.imp (ps_for hp hc hi.pi hg.pg hb.pss hs) fun D σ H ⟨M, ρ, e, S, h, l⟩ => by
    refine ⟨M, ρ, _, _, S, h, fun J M1 H1 ρ1 ds P1 it h1 => ?_, fun c M1 H1 ρ1 P1 h1 => l.xc c M1 σ H1 ρ1 P1 h1⟩
    obtain ⟨P, w0, step, fin⟩ := h1
    refine ⟨fun i m σ' H' => i + m = ds.length ∧ ∃ M' ρ', Post X.K p M1 σ H1 ρ1 M' σ' H' ρ' ∧ P i ρ', ⟨ds.length, Nat.zero_add _, M1, ρ1, Post.refl P1.sim, w0⟩, ?_⟩
    rintro i m σ2 H2 ⟨em, M2, ρ2, P2, w2⟩
    obtain ⟨go, stop⟩ := it M2 H2 (P2.keep P1.sim) P2.sim.mok
    by_cases hl : i < ds.length
    · right
      obtain ⟨gi, yi⟩ := go i _ (List.getElem?_eq_getElem hl)
      refine ⟨gi, fun σ' H' => ∃ M' ρ', Post X.K p M1 σ H1 ρ1 M' σ' H' ρ' ∧ P (i + 1) ρ', fun σ' H' ⟨M', ρ', P', w'⟩ => ⟨m - 1, by omega, by omega, M', ρ', P', w'⟩, fun x H3 y => ?_⟩
      obtain ⟨M3, st, mok3, R3⟩ := yi x H3 y
      have P3 := P2.sim.post st mok3
      refine ⟨M3, ρ2, _, _, P3.sim, R3, step i _ ρ2 (List.getElem?_eq_getElem hl) w2, fun M4 σ4 H4 ρ4 P4 _ h4 => ?_⟩
      have P14 := (P2.trans P1.sim P3).trans P1.sim P4
      have l4 := l.after S (P1.trans S P14)
      refine ⟨M4, ρ4, _, P4.sim, h4, ?_⟩
      exact ⟨fun M5 σ5 H5 ρ5 P5 w => ⟨M5, ρ5, P14.trans P1.sim P5, w⟩, fun M5 σ5 H5 ρ5 P5 h => l4.nx M5 σ5 H5 ρ5 P5 h, fun M5 σ5 H5 ρ5 P5 w => ⟨M5, ρ5, P14.trans P1.sim P5, w⟩, l4.rt, l4.xc⟩
    · left
      have ei : i = ds.length := by omega
      subst ei
      exact ⟨stop, (l.after S P1).nx M2 σ2 H2 ρ2 P2 (fin ρ2 w2)⟩⟩
end
end DL

set_option Elab.async false
set_option linter.all false
set_option maxRecDepth 100000
set_option maxHeartbeats 4000000
namespace DL
open PySem PySem.Spec PyProof.Rows L2

abbrev wNo : WX := fun _ _ _ _ => False
abbrev xNo : XQ := fun _ _ => False
def wipeE (ρ : Ev) : List Nat → Ev
  | [] => ρ
  | v :: vs => (wipeE ρ vs).set v .no
def unwipe (ρ1 ρ2 : Ev) : List Nat → Ev
  | [] => ρ2
  | v :: vs => (unwipe ρ1 ρ2 vs).set v (ρ1[v]?.getD .no)
section
variable {K : PySem.W.Frag} {p0 : Amb} {M M1 M' : Addr → Prop} {σ σ1 : L2.St} {H H1 H' : Hp} {ρ ρ1 ρ2 : Ev} {v : V} {i : Nat} {x : D}
theorem Sim.set_no (S : Sim K p0 M σ H ρ) (i : Nat) : Sim K p0 M (σ.set i none) H (ρ.set i .no) ∧ ∀ a, Wr (σ.set i none) (ρ.set i .no) a → Wr σ ρ a := by
  have sg : ∀ {j : Nat} {w : V}, (σ.set i none)[j]? = some (some w) → σ[j]? = some (some w) ∧ j ≠ i := fun {j w} h => by
    rcases set_get h with ⟨_, e⟩ | ⟨e, h⟩
    · cases e
    · exact ⟨h, e⟩
  have old : ∀ {j : Nat} {d : D}, ((ρ.set i .no)[j]? = some (.ow d) ∨ (ρ.set i .no)[j]? = some (.io d)) → (ρ[j]? = some (.ow d) ∨ ρ[j]? = some (.io d)) := fun {j d} h => by
    rcases h with h | h
    · rcases get_set h with ⟨_, e⟩ | ⟨_, e⟩
      · cases e
      · exact .inl e
    · rcases get_set h with ⟨_, e⟩ | ⟨_, e⟩
      · cases e
      · exact .inr e
  refine ⟨⟨by rw [List.length_set, List.length_set]; exact S.len, fun j d e => ?_, fun j d e => ?_, fun j d e => ?_, fun j l d e q h1 h2 h3 h4 => S.inj j l d e q (old h1) (old h2) (sg h3).1 (sg h4).1, S.mok, S.p0k, S.tabs⟩, fun a ⟨j, d, h1, h2⟩ => ⟨j, d, old h1, (sg h2).1⟩⟩
  · rcases get_set e with ⟨_, e'⟩ | ⟨hj, e'⟩
    · cases e'
    · obtain ⟨u, e1, r⟩ := S.va j d e'
      exact ⟨u, set_other hj e1, r⟩
  · rcases get_set e with ⟨_, e'⟩ | ⟨hj, e'⟩
    · cases e'
    · obtain ⟨q, e1, m, o, n⟩ := S.ow j d e'
      exact ⟨q, set_other hj e1, m, o, n⟩
  · rcases get_set e with ⟨_, e'⟩ | ⟨hj, e'⟩
    · cases e'
    · obtain ⟨q, e1, m, o, n⟩ := S.io j d e'
      exact ⟨q, set_other hj e1, m, o, n⟩
theorem Sim.wipe (S : Sim K p0 M σ H ρ) : ∀ vs : List Nat, Sim K p0 M (L2.wipe σ vs) H (wipeE ρ vs) ∧ ∀ a, Wr (L2.wipe σ vs) (wipeE ρ vs) a → Wr σ ρ a
  | [] => ⟨S, fun _ h => h⟩
  | v :: vs => by
    obtain ⟨S1, w1⟩ := Sim.wipe S vs
    obtain ⟨S2, w2⟩ := S1.set_no v
    exact ⟨S2, fun a h => w1 a (w2 a h)⟩
theorem wipe_get (σ : L2.St) : ∀ (vs : List Nat) (j : Nat), (L2.wipe σ vs)[j]? = if j ∈ vs then (if j < σ.length then some none else none) else σ[j]?
  | [], j => by simp [L2.wipe]
  | v :: vs, j => by
    have ih := wipe_get σ vs j
    show ((L2.wipe σ vs).set v none)[j]? = _
    by_cases e : j = v
    · subst e
      rw [if_pos List.mem_cons_self]
      by_cases hl : j < σ.length
      · rw [if_pos hl, List.getElem?_set_self (by rw [L2.wipe_length]; exact hl)]
      · rw [if_neg hl, List.getElem?_eq_none (by rw [List.length_set, L2.wipe_length]; omega)]
    · rw [List.getElem?_set_ne (Ne.symm e), ih]
      by_cases hm : j ∈ vs
      · rw [if_pos hm, if_pos (List.mem_cons_of_mem _ hm)]
      · rw [if_neg hm, if_neg (fun z => (List.mem_cons.mp z).elim e hm)]
theorem wipe_but {σ σ' : L2.St} {sl vs : List Nat} (h : But sl (L2.wipe σ vs) σ') (hs : ∀ j ∈ sl, j ∈ vs) : L2.wipe σ' vs = L2.wipe σ vs := by
  refine List.ext_getElem? fun j => ?_
  rw [wipe_get, wipe_get]
  have hl : σ'.length = σ.length := h.1.trans (L2.wipe_length σ vs)
  by_cases hm : j ∈ vs
  · rw [if_pos hm, if_pos hm, hl]
  · rw [if_neg hm, if_neg hm, h.2 j fun z => hm (hs j z), wipe_get, if_neg hm]
theorem unwipe_get (ρ1 ρ2 : Ev) : ∀ (vs : List Nat) (j : Nat) (s : Sl), (unwipe ρ1 ρ2 vs)[j]? = some s → (j ∈ vs ∧ (s = .no ∨ ρ1[j]? = some s)) ∨ (j ∉ vs ∧ ρ2[j]? = some s)
  | [], j, s, h => .inr ⟨List.not_mem_nil, h⟩
  | v :: vs, j, s, h => by
    rcases get_set (show ((unwipe ρ1 ρ2 vs).set v (ρ1[v]?.getD .no))[j]? = some s from h) with ⟨e1, e2⟩ | ⟨hj, e⟩
    · subst e1
      left
      refine ⟨List.mem_cons_self, ?_⟩
      cases hy : ρ1[j]? with
      | none => rw [hy] at e2; exact .inl e2
      | some t => rw [hy] at e2; exact .inr (by rw [e2]; rfl)
    · rcases unwipe_get ρ1 ρ2 vs j s e with ⟨h1, h2⟩ | ⟨h1, h2⟩
      · exact .inl ⟨List.mem_cons_of_mem _ h1, h2⟩
      · exact .inr ⟨fun z => (List.mem_cons.mp z).elim hj h1, h2⟩
theorem unwipe_length (ρ1 ρ2 : Ev) : ∀ vs : List Nat, (unwipe ρ1 ρ2 vs).length = ρ2.length
  | [] => rfl
  | v :: vs => by
    show ((unwipe ρ1 ρ2 vs).set v _).length = _
    rw [List.length_set, unwipe_length ρ1 ρ2 vs]
theorem sim_unwipe {vs : List Nat} (S1 : Sim K p0 M1 σ H1 ρ1) (S2 : Sim K p0 M' (L2.wipe σ vs) H' ρ2) (st : Step M1 (Wr σ ρ1) H1 M' H') (no : ∀ j ∈ vs, ownS ρ1[j]? = none) :
    Sim K p0 M' σ H' (unwipe ρ1 ρ2 vs) ∧ ∀ a, Wr σ (unwipe ρ1 ρ2 vs) a → Wr (L2.wipe σ vs) ρ2 a := by
  have k : Keep M1 H1 M' H' := st.keep fun p h => S1.hot h
  have old : ∀ {j : Nat} {d : D}, ((unwipe ρ1 ρ2 vs)[j]? = some (.ow d) ∨ (unwipe ρ1 ρ2 vs)[j]? = some (.io d)) → j ∉ vs ∧ (ρ2[j]? = some (.ow d) ∨ ρ2[j]? = some (.io d)) := fun {j d} h => by
    rcases h with h | h
    · rcases unwipe_get ρ1 ρ2 vs j _ h with ⟨hm, e | e⟩ | ⟨hm, e⟩
      · cases e
      · have z := no j hm
        rw [e] at z
        cases z
      · exact ⟨hm, .inl e⟩
    · rcases unwipe_get ρ1 ρ2 vs j _ h with ⟨hm, e | e⟩ | ⟨hm, e⟩
      · cases e
      · have z := no j hm
        rw [e] at z
        cases z
      · exact ⟨hm, .inr e⟩
  have out : ∀ {j : Nat} {w : V}, j ∉ vs → σ[j]? = some (some w) → (L2.wipe σ vs)[j]? = some (some w) := fun {j w} hm h => by rw [wipe_get, if_neg hm]; exact h
  refine ⟨⟨by rw [unwipe_length, S2.len, L2.wipe_length], fun j d e => ?_, fun j d e => ?_, fun j d e => ?_, fun j l d e q h1 h2 h3 h4 => ?_, S2.mok, S2.p0k, S2.tabs⟩, fun a ⟨j, d, h1, h2⟩ => ⟨j, d, (old h1).2, out (old h1).1 h2⟩⟩
  · rcases unwipe_get ρ1 ρ2 vs j _ e with ⟨hm, e | e⟩ | ⟨hm, e⟩
    · cases e
    · obtain ⟨u, e1, r⟩ := S1.va j d e
      exact ⟨u, e1, r.keep k⟩
    · obtain ⟨u, e1, r⟩ := S2.va j d e
      exact ⟨u, (L2.wipe_some e1).1, r⟩
  · obtain ⟨hm, e' | e'⟩ := old (.inl e)
    · obtain ⟨q, e1, m, o, n⟩ := S2.ow j d e'
      exact ⟨q, (L2.wipe_some e1).1, m, o, n⟩
    · rcases unwipe_get ρ1 ρ2 vs j _ e with ⟨hm2, _⟩ | ⟨_, e2⟩
      · exact absurd hm2 hm
      · rw [e'] at e2; cases e2
  · obtain ⟨hm, e' | e'⟩ := old (.inr e)
    · rcases unwipe_get ρ1 ρ2 vs j _ e with ⟨hm2, _⟩ | ⟨_, e2⟩
      · exact absurd hm2 hm
      · rw [e'] at e2; cases e2
    · obtain ⟨q, e1, m, o, n⟩ := S2.io j d e'
      exact ⟨q, (L2.wipe_some e1).1, m, o, n⟩
  · exact S2.inj j l d e q (old h1).2 (old h2).2 (out (old h1).1 h3) (out (old h2).1 h4)
/-- a hot thing that nobody holds stays as it is -/
theorem hot_kept {σ' : L2.St} {D : Addr} (S : Sim K p0 M σ H ρ) (P : Post K p0 M σ H ρ M' σ' H' ρ1) (m : M D) (nw : ¬ Wr σ ρ D) (o : Own K M H D x) : M' D ∧ ¬ Wr σ' ρ1 D ∧ Own K M' H' D x :=
  ⟨P.step.kp D m nw, fun z => (P.wr D z).elim nw o.some, o.keep (P.keep S) fun u e t => (P.step.fr D u e nw t).2 m⟩
/-- it is changed -/
theorem mut_hot {D : Addr} {o : HO} (S : Sim K p0 M σ H ρ) (m : M D) (nw : ¬ Wr σ ρ D) (nt : ∀ ps, H D ≠ some (.tbl ps)) (ntp : ∀ xs, H D ≠ some (.tup xs)) : Sim K p0 M σ (upd H D o) ρ := by
  have k : Keep M H M (upd H D o) := ⟨fun a u e n _ => ⟨.inl (by rw [upd_cold m n]; exact e), n⟩, fun b xs e => (upd_ne (fun z : b = D => ntp xs (by rw [← z]; exact e))).trans e⟩
  have dom : ∀ a, H a ≠ none → upd H D o a ≠ none := fun a ha => by
    by_cases e : a = D
    · rw [e, upd_same]; exact fun z => nomatch z
    · rw [upd_ne e]; exact ha
  have nd : ∀ {j : Nat} {d : DL.D} {q : Addr}, (ρ[j]? = some (.ow d) ∨ ρ[j]? = some (.io d)) → σ[j]? = some (some (.ref q)) → q ≠ D := fun {j d q} h1 h2 e => nw (e ▸ ⟨j, d, h1, h2⟩)
  refine ⟨S.len, fun j d e => ?_, fun j d e => ?_, fun j d e => ?_, S.inj, fun a z => dom a (S.mok a z), fun q e => dom q (S.p0k q e), fun q e => tab_upd nt q (S.tabs q e)⟩
  · obtain ⟨u, e1, r⟩ := S.va j d e
    exact ⟨u, e1, r.keep k⟩
  · obtain ⟨q, e1, mq, oo, n⟩ := S.ow j d e
    exact ⟨q, e1, mq, oo.keep k fun u z _ => by rw [upd_ne (nd (.inl e) e1)]; exact z, n⟩
  · obtain ⟨q, e1, mq, oo, n⟩ := S.io j d e
    exact ⟨q, e1, mq, oo.keep k fun u z _ => by rw [upd_ne (nd (.inr e) e1)]; exact z, n⟩
end

/-! ### comprehensions -/
def bYes : BT := fun ρ q _ => q true ρ
structure DTs (X : Cx) (p0 : Amb) (W : WX) (ifs : List Expr) (t : BT) : Prop where
  pts : PTs X ifs (liftB X.K p0 W t)
theorem PTs.imp {X : Cx} {e : List Expr} {t u : TT} (h : PTs X e t) (i : ∀ σ H Q, u σ H Q → t σ H Q) : PTs X e u := ⟨fun pins s σ H Q I hu => h.run pins s σ H Q I (i σ H Q hu)⟩
theorem dts_nil {X : Cx} {p : Amb} {W : WX} : DTs X p W [] bYes := ⟨PTs.imp pts_nil fun σ H Q ⟨M, ρ, q, x, S, h, hq, _⟩ => hq true M H ρ (Post.refl S) (Slots.refl ρ) h⟩
theorem dts_one {X : Cx} {p : Amb} {W : WX} {c : Expr} {t : BT} (h : DB X p W c t) : DTs X p W [c] t := ⟨pts_one h.pt⟩
/-- [e for target in iter if ..]: P by the turn, what is made, the slots -/
def tLc' (ti : IT) (g : GT) (tt : BT) (te : ET) (vs : List Nat) : ET := fun ρ q x => ti ρ (fun ds ρ1 => (vs.all fun v => (ownS ρ1[v]?).isNone) = true ∧ ∃ P : Nat → List D → Ev → Prop, P 0 [] (wipeE ρ1 vs) ∧
  (∀ i d acc ρ2, ds[i]? = some d → P i acc ρ2 → g d ρ2 fun ρ3 => tt ρ3 (fun b ρ4 => if b = true then te ρ4 (fun r ρ5 => some! (settle ρ5 r) fun z => acc.length < sizeLine ∧ P (i + 1) (acc ++ [z.1]) (wipeE z.2 vs)) xNo else P (i + 1) acc (wipeE ρ4 vs)) xNo) ∧
  (∀ acc ρ2, P ds.length acc ρ2 → q (.n (.lst acc)) (unwipe ρ1 ρ2 vs))) x
theorem tLc_ok {X : Cx} {p : Amb} {W : WX} {ti : IT} {g : GT} {tt : BT} {te : ET} {vs sl : List Nat} (hsl : ∀ j ∈ sl, j ∈ vs) {σ : L2.St} {H : Hp} {Q : VK} (h : lift X.K p W (tLc' ti g tt te vs) σ H Q) :
    tLc (liftI X.K p W ti) (liftG X.K p sl g) (liftB X.K p wNo tt) (lift X.K p wNo te) vs σ H Q := by
  obtain ⟨M, ρ, q, xq, S, ht, hq, hx⟩ := h
  refine ⟨M, ρ, _, _, S, ht, fun J M1 H1 ρ1 ds P1 it h1 D hD => ?_, hx⟩
  obtain ⟨hno, P, w0, step, fin⟩ := h1
  have no : ∀ j ∈ vs, ownS ρ1[j]? = none := fun j hj => Option.isNone_iff_eq_none.mp (List.all_eq_true.mp hno j hj)
  obtain ⟨Sw, ww⟩ := P1.sim.wipe vs
  have R0 := ResOk.lst (K := X.K) (xs := []) (ds := []) P1.sim.mok hD .nil
  have nw0 : ¬ Wr σ ρ1 D := fun z => P1.sim.mok D (P1.sim.hot z) hD
  refine ⟨fun i m H' => i + m = ds.length ∧ ∃ M' ρ' acc, Sim X.K p M' (L2.wipe σ vs) H' ρ' ∧ Step M1 (Wr σ ρ1) H1 M' H' ∧ (∀ a, Wr (L2.wipe σ vs) ρ' a → Wr σ ρ1 a ∨ H1 a = none) ∧ M' D ∧ ¬ Wr (L2.wipe σ vs) ρ' D ∧ Own X.K M' H' D (.lst acc) ∧ P i acc ρ',
    ⟨ds.length, Nat.zero_add _, _, wipeE ρ1 vs, [], Sw.more R0.step R0.mok, R0.step.weak fun _ z => z.elim, fun a z => .inl (ww a z), .inr rfl, fun z => nw0 (ww D z), ⟨[], upd_same, .nil⟩, w0⟩, ?_⟩
  rintro i m H2 ⟨em, M2, ρ2, acc, S2, st2, wr2, mD, nwD, oD, w2⟩
  obtain ⟨go, stop⟩ := it M2 H2 (st2.keep fun a z => P1.sim.hot z) S2.mok
  by_cases hl : i < ds.length
  · right
    obtain ⟨gi, yi⟩ := go i _ (List.getElem?_eq_getElem hl)
    refine ⟨gi, fun H' => ∃ M' ρ' acc, Sim X.K p M' (L2.wipe σ vs) H' ρ' ∧ Step M1 (Wr σ ρ1) H1 M' H' ∧ (∀ a, Wr (L2.wipe σ vs) ρ' a → Wr σ ρ1 a ∨ H1 a = none) ∧ M' D ∧ ¬ Wr (L2.wipe σ vs) ρ' D ∧ Own X.K M' H' D (.lst acc) ∧ P (i + 1) acc ρ', fun H' z => ⟨m - 1, by omega, by omega, z⟩, fun x H3 y => ?_⟩
    obtain ⟨M3, st3, mok3, R3⟩ := yi x H3 y
    have P3 := S2.post st3 mok3
    refine ⟨M3, ρ2, _, _, P3.sim, R3, step i _ acc ρ2 (List.getElem?_eq_getElem hl) w2, fun M4 σ4 H4 ρ4 P4 B4 h4 => ?_⟩
    have ew := wipe_but B4 hsl
    refine ⟨ew, M4, ρ4, _, _, P4.sim, h4, fun b M5 H5 ρ5 P5 S5 h5 => ?_, fun c M5 H5 ρ5 P5 h5 => h5⟩
    have P35 := (P3.trans S2 P4).trans S2 P5
    -- the turn's end: everything from M2 on
    have close : ∀ {M6 : Addr → Prop} {H6 : Hp} {ρ6 : Ev}, Post X.K p M2 (L2.wipe σ vs) H2 ρ2 M6 σ4 H6 ρ6 → Sim X.K p M6 (L2.wipe σ vs) H6 (wipeE ρ6 vs) ∧ Step M1 (Wr σ ρ1) H1 M6 H6 ∧ (∀ a, Wr (L2.wipe σ vs) (wipeE ρ6 vs) a → Wr σ ρ1 a ∨ H1 a = none) ∧ M6 D ∧ ¬ Wr (L2.wipe σ vs) (wipeE ρ6 vs) D ∧ Own X.K M6 H6 D (.lst acc) := fun {M6 H6 ρ6} P6 => by
      obtain ⟨Sx, wx⟩ := P6.sim.wipe vs
      rw [ew] at Sx wx
      obtain ⟨k1, k2, k3⟩ := hot_kept S2 P6 mD nwD oD
      refine ⟨Sx, st2.trans P6.step wr2 P1.sim.mok, fun a z => ?_, k1, fun z => k2 (wx D z), k3⟩
      rcases P6.wr a (wx a z) with z | z
      · exact wr2 a z
      · exact .inr (dom_back st2.dom z)
    cases b with
    | false =>
      rw [if_neg Bool.false_ne_true] at h5
      refine iteF ?_
      obtain ⟨a1, a2, a3, a4, a5, a6⟩ := close P35
      exact ⟨M5, _, acc, a1, a2, a3, a4, a5, a6, h5⟩
    | true =>
      rw [if_pos rfl] at h5
      refine iteT ⟨M5, ρ5, _, _, P5.sim, h5, fun v M6 H6 ρ6 r P6 S6 R6 h6 => ?_, fun c M6 H6 ρ6 P6 h6 => h6⟩
      obtain ⟨⟨d, ρ7⟩, e7, hz, h7⟩ := some!_ok h6
      obtain ⟨M7, P7, S7, R7⟩ := settleN_ok P5.sim P6 R6 e7
      obtain ⟨a1, a2, a3, a4, a5, avs, ah, ar⟩ := close (P35.trans S2 P7)
      refine ⟨avs, ah, by rw [ar.length]; exact hz, M7, _, acc ++ [d], mut_hot a1 a4 a5 (fun ps z => by rw [ah] at z; cases z) (fun ps z => by rw [ah] at z; cases z), ⟨fun b u e n t => ?_, a2.sub, a2.kp, fun b hb => ?_, fun b xs e => (upd_ne (fun z => by have e1 := a2.tp b xs e; rw [z, ah] at e1; cases e1)).trans (a2.tp b xs e), fun q z => tab_upd (fun ps z => by rw [ah] at z; cases z) q (a2.tb q z)⟩, a3, a4, a5, ⟨_, upd_same, ?_⟩, h7⟩
      · have nb : b ≠ D := fun z => by rw [z, hD] at e; cases e
        obtain ⟨q1, q2⟩ := a2.fr b u e n t
        exact ⟨q1.upd nb, fun m => (upd_ne nb).trans (q2 m)⟩
      · by_cases e : b = D
        · rw [e, upd_same]; exact fun z => nomatch z
        · rw [upd_ne e]; exact a2.dom b hb
      · have kk : Keep M7 H6 M7 (upd H6 D (.lst (avs ++ [v]))) := ⟨fun b w e n _ => ⟨.inl (by rw [upd_cold a4 n]; exact e), n⟩, fun b xs e => (upd_ne (fun z => by rw [z, ah] at e; cases e)).trans e⟩
        exact (ar.keep kk).append (.cons (R7.keep kk) .nil)
  · left
    have ei : i = ds.length := by omega
    subst ei
    refine ⟨stop, ?_⟩
    obtain ⟨Su, wu⟩ := sim_unwipe P1.sim S2 st2 no
    have P2 : Post X.K p M1 σ H1 ρ1 M2 σ H2 (unwipe ρ1 ρ2 vs) := ⟨Su, st2, fun a z => wr2 a (wu a z)⟩
    refine hq (.ref D) M2 H2 _ (.n (.lst acc)) (P1.trans S P2) trivial ⟨D, rfl, mD, fun z => nwD (wu D z), dom_back P1.step.dom hD, oD⟩ (fin acc ρ2 w2)
end DL

set_option Elab.async false
set_option linter.all false
set_option maxRecDepth 100000
set_option maxHeartbeats 4000000
namespace DL
open PySem PySem.Spec PyProof.Rows L2
section
variable {X : Cx} {p : Amb} {W : WX}
theorem de_lc {elt tg iter : Expr} {ifs : List Expr} {scope : Scope} {own : List (Str × Nat)} {pos : Pos} {ti : IT} {g : GT} {tt : BT} {te : ET} {sl : List Nat} (hc : X.calm = true) (hN : X.N.Nodup) (hi : DI X p W tg iter ti) (ok : BlkOk X.N X.env.scope scope own)
    (hg : ∀ (s : Shared) (H : Hp) (C : Addr) (cl : List (Str × Addr)) (fp : List Addr), DG (X.blk s H scope (compEnvC scope cl C X.env) fp) p tg sl g) (ht : ∀ (s : Shared) (H : Hp) (C : Addr) (cl : List (Str × Addr)) (fp : List Addr), DTs (X.blk s H scope (compEnvC scope cl C X.env) fp) p wNo ifs tt)
    (he : ∀ (s : Shared) (H : Hp) (C : Addr) (cl : List (Str × Addr)) (fp : List Addr), DE (X.blk s H scope (compEnvC scope cl C X.env) fp) p wNo elt te) (hsl : (sl.all fun j => (own.map (·.2)).contains j) = true) (hs : ∀ x, foldedSetIterable iter X.env x = pure x := by intro _; rfl) :
    DE X p W (.ListComp elt [⟨tg, iter, ifs, 0⟩] scope pos) (tLc' ti g tt te (own.map (·.2))) :=
  ⟨PE.imp (pe_lc hc hN hi.pi ok (fun s H C cl fp => (hg s H C cl fp).pg) (fun s H C cl fp => (ht s H C cl fp).pts) (fun s H C cl fp => (he s H C cl fp).pe) hs) fun _ _ _ h => tLc_ok (fun j hj => by simpa using List.all_eq_true.mp hsl j hj) h⟩
theorem ds_setLc {i : Nat} {y : Str} {py : Pos} {elt tg iter : Expr} {ifs : List Expr} {scope : Scope} {own : List (Str × Nat)} {pos spos : Pos} {ti : IT} {g : GT} {tt : BT} {te : ET} {sl : List Nat} (hc : X.calm = true) (hN : X.N.Nodup) (hy : X.N[i]? = some y) (hyl : X.env.scope.names.lookup y = some .local)
    (hsw : swapsWith (.ListComp elt [⟨tg, iter, ifs, 0⟩] scope pos) (some (.Name y py)) spos.line X.env = pure true) (hi : DI X p W tg iter ti) (ok : BlkOk X.N X.env.scope scope own)
    (hg : ∀ (s : Shared) (H : Hp) (C : Addr) (cl : List (Str × Addr)) (fp : List Addr), DG (X.blk s H scope (compEnvC scope cl C X.env) fp) p tg sl g) (ht : ∀ (s : Shared) (H : Hp) (C : Addr) (cl : List (Str × Addr)) (fp : List Addr), DTs (X.blk s H scope (compEnvC scope cl C X.env) fp) p wNo ifs tt)
    (he : ∀ (s : Shared) (H : Hp) (C : Addr) (cl : List (Str × Addr)) (fp : List Addr), DE (X.blk s H scope (compEnvC scope cl C X.env) fp) p wNo elt te) (hsl : (sl.all fun j => (own.map (·.2)).contains j) = true) (hs : ∀ x, foldedSetIterable iter X.env x = pure x := by intro _; rfl) :
    DS X p W (.Assign [.Name y py] (.ListComp elt [⟨tg, iter, ifs, 0⟩] scope pos) spos) (sSet i (tLc' ti g tt te (own.map (·.2)))) :=
  ⟨PS.imp (ps_setLc hc hN hy hyl hsw hi.pi ok (fun s H C cl fp => (hg s H C cl fp).pg) (fun s H C cl fp => (ht s H C cl fp).pts) (fun s H C cl fp => (he s H C cl fp).pe) hs) fun D σ H ⟨M, ρ, e, S, h, l⟩ => by
    refine tLc_ok (p := p) (W := W) (fun j hj => by simpa using List.all_eq_true.mp hsl j hj) ⟨M, ρ, _, _, S, h, fun v M1 H1 ρ1 r P1 _ R1 h1 => ?_, fun c M1 H1 ρ1 P1 h1 => l.xc c M1 σ H1 ρ1 P1 h1⟩
    obtain ⟨ρ2, e1, h2⟩ := some!_ok h1
    obtain ⟨M2, P2⟩ := store_ok (i := i) S P1 R1 e1
    exact l.nx M2 _ H1 ρ2 P2 h2⟩
end

/-! ### defs -/
/-- a def's promise over data: the arguments, what is wanted of the result, of an exception of the class at c -/
abbrev PSp := List D → (RV → Prop) → (Addr → Prop) → Prop
def liftSp (K : PySem.W.Frag) (T : Addr → Prop) (sp : PSp) : Sp := fun vs H Q E => (∀ a, T a → GxR.TabG H a) ∧ ∃ (M : Addr → Prop) (ds : List D) (q : RV → Prop) (x : Addr → Prop), (∀ a, M a → H a ≠ none) ∧ RepL K M H vs ds ∧ sp ds q x ∧
  (∀ v M' H' r, ResOk K M H M' H' v r → q r → Q v H') ∧ (∀ c M' H', Step M Nil H M' H' → (∀ a, M' a → H' a ≠ none) → x c → E (.ref c) none H')
/-- .. the first argument is the caller's own thing, changed -/
abbrev PSpIO := D → List D → (RV → D → Prop) → (Addr → D → Prop) → Prop
structure IoOk (K : PySem.W.Frag) (M : Addr → Prop) (H : Hp) (p : Addr) (M' : Addr → Prop) (H' : Hp) (y : D) : Prop where
  step : Step M (fun a => a = p) H M' H'
  mok : ∀ a, M' a → H' a ≠ none
  hot : M' p
  own : Own K M' H' p y
def liftIO (K : PySem.W.Frag) (T : Addr → Prop) (sp : PSpIO) : Sp := fun vs H Q E => (∀ a, T a → GxR.TabG H a) ∧ ∃ (p : Addr) (vs' : List V) (M : Addr → Prop) (d : D) (ds : List D) (q : RV → D → Prop) (x : Addr → D → Prop), vs = .ref p :: vs' ∧ M p ∧ Own K M H p d ∧ (∀ a, M a → H a ≠ none) ∧ RepL K M H vs' ds ∧ sp d ds q x ∧
  (∀ v M' H' r y, IoOk K M H p M' H' y → (match r with
    | .d x => Rep K M' H' v x
    | .n x => ∃ a, v = .ref a ∧ H a = none ∧ M' a ∧ a ≠ p ∧ Own K M' H' a x
    | .o _ => False) → q r y → Q v H') ∧ (∀ c M' H' y, IoOk K M H p M' H' y → x c y → E (.ref c) none H')
def startE (N : List Str) (ds : List D) : Ev := ds.map Sl.va ++ List.replicate (N.length - ds.length) Sl.no
def startIO (N : List Str) (d : D) (ds : List D) : Ev := (Sl.io d :: ds.map Sl.va) ++ List.replicate (N.length - (ds.length + 1)) Sl.no
theorem start_get {N : List Str} {vs : List V} {i : Nat} {v : V} (h : vs[i]? = some v) : (L2.start N vs)[i]? = some (some v) := by
  unfold L2.start
  have hl : i < vs.length := (List.getElem?_eq_some_iff.mp h).1
  rw [List.getElem?_append_left (by rw [List.length_map]; exact hl), List.getElem?_map, h]
  rfl
theorem noRep {n i : Nat} {s : Sl} (h : (List.replicate n Sl.no)[i]? = some s) : s = .no := by
  rw [List.getElem?_replicate] at h
  split at h
  · cases h; rfl
  · cases h
theorem start_sim {K : PySem.W.Frag} {M : Addr → Prop} {H : Hp} {N : List Str} {vs : List V} {ds : List D} {T : Addr → Prop} (ht : ∀ a, T a → GxR.TabG H a) (mok : ∀ a, M a → H a ≠ none) (r : RepL K M H vs ds) : Sim K ⟨none, T⟩ M (L2.start N vs) H (startE N ds) ∧ ∀ a, ¬ Wr (L2.start N vs) (startE N ds) a := by
  have key : ∀ {i : Nat} {s : Sl}, (startE N ds)[i]? = some s → s = .no ∨ ∃ d, ds[i]? = some d ∧ s = .va d := fun {i s} h => by
    unfold startE at h
    by_cases hl : i < ds.length
    · rw [List.getElem?_append_left (by rw [List.length_map]; exact hl), List.getElem?_map, List.getElem?_eq_getElem hl] at h
      cases h
      exact .inr ⟨_, List.getElem?_eq_getElem hl, rfl⟩
    · rw [List.getElem?_append_right (by rw [List.length_map]; omega)] at h
      exact .inl (noRep h)
  have no : ∀ {i : Nat} {d : D}, ¬ ((startE N ds)[i]? = some (.ow d) ∨ (startE N ds)[i]? = some (.io d)) := fun {i d} h => by
    rcases h with h | h <;> rcases key h with e | ⟨_, _, e⟩ <;> cases e
  refine ⟨⟨?_, fun i d h => ?_, fun i d h => (no (.inl h)).elim, fun i d h => (no (.inr h)).elim, fun i j d e q h1 h2 => (no h1).elim, mok, (fun q e => nomatch e), ht⟩, fun a ⟨j, d, h1, h2⟩ => no h1⟩
  · unfold startE L2.start
    rw [List.length_append, List.length_append, List.length_map, List.length_map, List.length_replicate, List.length_replicate, r.length]
  · rcases key h with e | ⟨d', hd, e⟩
    · cases e
    · cases e
      obtain ⟨v, hv, rv⟩ := r.get hd
      exact ⟨v, start_get hv, rv⟩
theorem startIO_sim {K : PySem.W.Frag} {M : Addr → Prop} {H : Hp} {N : List Str} {p : Addr} {vs : List V} {d : D} {ds : List D} {T : Addr → Prop} (ht : ∀ a, T a → GxR.TabG H a) (mp : M p) (o : Own K M H p d) (mok : ∀ a, M a → H a ≠ none) (r : RepL K M H vs ds) :
    Sim K ⟨some p, T⟩ M (L2.start N (.ref p :: vs)) H (startIO N d ds) ∧ ∀ a, Wr (L2.start N (.ref p :: vs)) (startIO N d ds) a → a = p := by
  have h0 : (L2.start N (.ref p :: vs))[0]? = some (some (.ref p)) := start_get rfl
  have key : ∀ {i : Nat} {s : Sl}, (startIO N d ds)[i]? = some s → s = .no ∨ (i = 0 ∧ s = .io d) ∨ ∃ j e, i = j + 1 ∧ ds[j]? = some e ∧ s = .va e := fun {i s} h => by
    cases i with
    | zero => cases h; exact .inr (.inl ⟨rfl, rfl⟩)
    | succ j =>
      have h : (ds.map Sl.va ++ List.replicate (N.length - (ds.length + 1)) Sl.no)[j]? = some s := h
      by_cases hl : j < ds.length
      · rw [List.getElem?_append_left (by rw [List.length_map]; exact hl), List.getElem?_map, List.getElem?_eq_getElem hl] at h
        cases h
        exact .inr (.inr ⟨j, _, rfl, List.getElem?_eq_getElem hl, rfl⟩)
      · rw [List.getElem?_append_right (by rw [List.length_map]; omega)] at h
        exact .inl (noRep h)
  have now : ∀ {i : Nat} {e : D}, (startIO N d ds)[i]? ≠ some (.ow e) := fun {i e} h => by
    rcases key h with e | ⟨_, e⟩ | ⟨_, _, _, _, e⟩ <;> cases e
  have io0 : ∀ {i : Nat} {e : D}, (startIO N d ds)[i]? = some (.io e) → i = 0 ∧ e = d := fun {i e} h => by
    rcases key h with e | ⟨h0, e⟩ | ⟨_, _, _, _, e⟩
    · cases e
    · cases e; exact ⟨h0, rfl⟩
    · cases e
  refine ⟨⟨?_, fun i e h => ?_, fun i e h => (now h).elim, fun i e h => ?_, fun i j e f q h1 h2 _ _ => ?_, mok, (fun q e => by cases e; exact o.some), ht⟩, fun a ⟨j, e, h1, h2⟩ => ?_⟩
  · unfold startIO L2.start
    rw [List.length_append, List.length_append, List.length_map, List.length_replicate, List.length_replicate, List.length_cons, List.length_cons, List.length_map, r.length]
  · rcases key h with e1 | ⟨_, e1⟩ | ⟨j, e', rfl, hd, e1⟩
    · cases e1
    · cases e1
    · cases e1
      obtain ⟨v, hv, rv⟩ := r.get hd
      exact ⟨v, start_get (vs := .ref p :: vs) (i := j + 1) hv, rv⟩
  · obtain ⟨rfl, rfl⟩ := io0 h
    exact ⟨p, h0, mp, o, rfl⟩
  · rcases h1 with h1 | h1
    · exact (now h1).elim
    · rcases h2 with h2 | h2
      · exact (now h2).elim
      · rw [(io0 h1).1, (io0 h2).1]
  · rcases h1 with h1 | h1
    · exact (now h1).elim
    · rw [(io0 h1).1, h0] at h2
      cases h2
      rfl
def ioS : Option Sl → Option D
  | some (.io d) => some d
  | _ => none
section
variable {P : Program} {w : World} {K : PySem.W.Frag} {mg : Str → Option Value} {base : Heap}
/-- as Fun.okX, the exceptions' contexts None -/
theorem okN {x qual : Str} {st : Stmt} {f : Addr} {fd : FuncData} {N ps : List Str} {k : Nat} {sp : Sp} (F : Fun K x qual st f fd) (S : FnScope N ps (defScope st)) (len : ∀ vs H Q E, sp vs H Q E → vs.length = ps.length)
    (hb : ∀ (cdv : Value) (A : Around) (outer : List Env) (s : Shared) (H : Hp) (vs : List V) (Q : VK) (E : XK), Room k (A.deeper (envOfC qual (defScope st) s.heap.objs.size f cdv)) → sp vs H Q E →
      ∃ t, PSs (cxOf (L2N.CX P w) P w K mg base N qual (defScope st) f cdv A outer s H E) (defBody st) t ∧ t { nx := fun _ H' => Q .non H', rt := Q } (L2.start N vs) H) : FnOk P w K mg base (L2N.CX P w) (k + 1) f fd ps sp := by
  obtain ⟨oc, od, kV, doc, pm, an, cdv, ct, osl, rfl, lk, hcd⟩ := F.ex
  exact fn_of lk hcd S len fun A outer s H vs Q E hr h => hb cdv A outer s H vs Q E hr h
theorem fn_ok {T : Addr → Prop} {x qual : Str} {st : Stmt} {f : Addr} {fd : FuncData} {N ps : List Str} {k : Nat} {sp : PSp} {t : ST} (F : Fun K x qual st f fd) (S : FnScope N ps (defScope st)) (len : ∀ ds q x, sp ds q x → ds.length = ps.length)
    (hbody : ∀ (cdv : Value) (A : Around) (outer : List Env) (s : Shared) (H : Hp) (E : XK), Room k (A.deeper (envOfC qual (defScope st) s.heap.objs.size f cdv)) →
      DSs (cxOf (L2N.CX P w) P w K mg base N qual (defScope st) f cdv A outer s H E) ⟨none, T⟩ (fun c d _ H => E c d H) (defBody st) t)
    (hsp : ∀ ds q x, sp ds q x → t ⟨fun _ => q (.d .non), fun r _ => q r, fun _ => False, fun _ => False, fun c _ => x c⟩ (startE N ds)) : FnOk P w K mg base (L2N.CX P w) (k + 1) f fd ps (liftSp K T sp) := by
  refine okN F S (fun vs H Q E ⟨_, M, ds, q, x, mok, r, h, _⟩ => r.length.trans (len ds q x h)) fun cdv A outer s H vs Q E hr ⟨ht, M, ds, q, x, mok, r, h, k1, k2⟩ => ?_
  refine ⟨_, (hbody cdv A outer s H E hr).pss, ?_⟩
  obtain ⟨S0, nw⟩ := start_sim (N := N) ht mok r
  have st0 : ∀ {M' : Addr → Prop} {H' : Hp}, Step M (Wr (L2.start N vs) (startE N ds)) H M' H' → Step M Nil H M' H' := fun s => s.weak fun a z => nw a z
  refine ⟨M, startE N ds, _, S0, hsp ds q x h, ⟨fun M' σ' H' ρ' P' h' => k1 .non M' H' (.d .non) ⟨st0 P'.step, P'.sim.mok, Rep.non⟩ h', fun _ _ _ _ _ z => z.elim, fun _ _ _ _ _ z => z.elim, fun v M' σ' H' ρ' r' P' R' h' => k1 v M' H' r' ⟨st0 P'.step, P'.sim.mok, ?_⟩ h', fun c M' σ' H' ρ' P' h' => k2 c M' H' (st0 P'.step) P'.sim.mok h'⟩⟩
  cases r' with
  | d y => exact R'
  | n y =>
    obtain ⟨a, e, m, o, z, _⟩ := R'
    exact ⟨a, e, z.elim id fun z => (nw a z).elim, m, o⟩
  | o _ => exact R'
theorem fn_okIO {T : Addr → Prop} {x qual : Str} {st : Stmt} {f : Addr} {fd : FuncData} {N ps : List Str} {k : Nat} {sp : PSpIO} {t : ST} (F : Fun K x qual st f fd) (S : FnScope N ps (defScope st)) (len : ∀ d ds q x, sp d ds q x → ds.length + 1 = ps.length)
    (hbody : ∀ (p : Addr) (cdv : Value) (A : Around) (outer : List Env) (s : Shared) (H : Hp) (E : XK), Room k (A.deeper (envOfC qual (defScope st) s.heap.objs.size f cdv)) →
      DSs (cxOf (L2N.CX P w) P w K mg base N qual (defScope st) f cdv A outer s H E) ⟨some p, T⟩ (fun c d _ H => E c d H) (defBody st) t)
    (hsp : ∀ d ds q x, sp d ds q x → t ⟨fun ρ => some! (ioS ρ[0]?) fun y => q (.d .non) y, fun r ρ => some! (ioS ρ[0]?) fun y => q r y, fun _ => False, fun _ => False, fun c ρ => some! (ioS ρ[0]?) fun y => x c y⟩ (startIO N d ds)) : FnOk P w K mg base (L2N.CX P w) (k + 1) f fd ps (liftIO K T sp) := by
  refine okN F S (fun vs H Q E ⟨_, p, vs', M, d, ds, q, x, e, _, _, _, r, h, _⟩ => by rw [e, List.length_cons, r.length]; exact len d ds q x h) fun cdv A outer s H vs Q E hr ⟨ht, p, vs', M, d, ds, q, x, e, mp, o, mok, r, h, k1, k2⟩ => ?_
  subst e
  refine ⟨_, (hbody p cdv A outer s H E hr).pss, ?_⟩
  obtain ⟨S0, nw⟩ := startIO_sim (N := N) ht mp o mok r
  have io : ∀ {M' : Addr → Prop} {σ' : L2.St} {H' : Hp} {ρ' : Ev} {y : D}, Post K ⟨some p, T⟩ M (L2.start N (.ref p :: vs')) H (startIO N d ds) M' σ' H' ρ' → ioS ρ'[0]? = some y → IoOk K M H p M' H' y := fun {M' σ' H' ρ' y} P' h' => by
    cases hy : ρ'[0]? with
    | none => rw [hy] at h'; cases h'
    | some sl =>
      rw [hy] at h'
      cases sl with
      | io z =>
        cases h'
        obtain ⟨q', e1, m, o', e2⟩ := P'.sim.io 0 _ hy
        cases e2
        exact ⟨P'.step.weak nw, P'.sim.mok, m, o'⟩
      | _ => cases h'
  refine ⟨M, startIO N d ds, _, S0, hsp d ds q x h, ⟨fun M' σ' H' ρ' P' h' => ?_, fun _ _ _ _ _ z => z.elim, fun _ _ _ _ _ z => z.elim, fun v M' σ' H' ρ' r' P' R' h' => ?_, fun c M' σ' H' ρ' P' h' => ?_⟩⟩
  · obtain ⟨y, e, h2⟩ := some!_ok h'
    exact k1 .non M' H' (.d .non) y (io P' e) .non h2
  · obtain ⟨y, e, h2⟩ := some!_ok h'
    refine k1 v M' H' r' y (io P' e) ?_ h2
    cases r' with
    | d y => exact R'
    | n y =>
      obtain ⟨a, e, m, o, z, n⟩ := R'
      have na : a ≠ p := fun z => n (by rw [z])
      exact ⟨a, e, z.elim id fun z => (na (nw a z)).elim, m, na, o⟩
    | o _ => exact R'
  · obtain ⟨y, e, h2⟩ := some!_ok h'
    exact k2 c M' H' y (io P' e) h2
end

/-! ### calls -/
def tCall' (sp : PSp) (ta : AT) : ET := fun ρ q x => ta ρ (fun rs ρ1 => some! (settleL ρ1 rs) fun z => sp z.1 (fun r => q r z.2) (fun c => x c z.2)) x
def tCallIO (sp : PSpIO) (ta : AT) : ET := fun ρ q x => ta ρ (fun rs ρ1 => match rs with
  | .o i :: rs' => some! (settleL ρ1 rs') fun z => some! (ownS z.2[i]?) fun d => sp d z.1 (fun r y => q r (put i y z.2)) (fun c y => x c (put i y z.2))
  | _ => False) x
section
variable {X : Cx} {p : Amb} {W : WX} {k : Nat} {f : Addr} {fd : FuncData} {ps : List Str} {x : Str} {pp pos : Pos} {e : Expr} {es : List Expr} {t : AT}
theorem de_call {sp : PSp} (F : FnOk X.prog X.w X.K X.mg X.base (L2N.CX X.prog X.w) k f fd ps (liftSp X.K p.tb sp)) (tk : L2N.Takes X W) (hr : Room k X.A) (hg : Gl X x) (hm : X.mg x = some (.ref f)) (hk : PySem.W.keepIn X.K (.ref f) = true) (hb : Binds X.K fd ps [])
    (ha : DA X p W (e :: es) t) (hdb : (x == ("__debug__" : Str)) = false := by decide) (he : starEach (e :: es) X.env = (false, eval e X.env) :: starEach es X.env := by rfl) (hpl : (backTo pos (starEach es X.env)).any (·.1) = false := by rfl) :
    DE X p W (.Call (.Name x pp) (e :: es) [] pos) (tCall' sp t) := ⟨PE.imp (pe_callS F hr hg hm hk hb (fun σ => L2N.passAt tk σ) ha.pa hdb he hpl) fun σ H Q ⟨M, ρ, q, xq, S, ht, hq, hx⟩ => by
  refine ⟨M, ρ, _, _, S, ht, fun vs M1 H1 ρ1 rs P1 S1 R1 h1 => ?_, hx⟩
  obtain ⟨⟨ds, ρ2⟩, e1, h2⟩ := some!_ok h1
  obtain ⟨M2, P2, S2, R2⟩ := settleL_ok P1.sim R1 e1
  have P12 := P1.trans S P2
  refine ⟨P2.sim.tabs, M2, ds, _, _, P2.sim.mok, R2, h2, fun v M' H' r ok h' => ?_, fun c M' H' st mok h' => hx c M' H' ρ2 (P12.trans S (P2.sim.post st mok)) h'⟩
  obtain ⟨P3, R3⟩ := ok.fin S P12
  exact hq v M' H' ρ2 r P3 trivial R3 h'⟩
theorem de_callIO {sp : PSpIO} (F : FnOk X.prog X.w X.K X.mg X.base (L2N.CX X.prog X.w) k f fd ps (liftIO X.K p.tb sp)) (tk : L2N.Takes X W) (hr : Room k X.A) (hg : Gl X x) (hm : X.mg x = some (.ref f)) (hk : PySem.W.keepIn X.K (.ref f) = true) (hb : Binds X.K fd ps [])
    (ha : DA X p W (e :: es) t) (hdb : (x == ("__debug__" : Str)) = false := by decide) (he : starEach (e :: es) X.env = (false, eval e X.env) :: starEach es X.env := by rfl) (hpl : (backTo pos (starEach es X.env)).any (·.1) = false := by rfl) :
    DE X p W (.Call (.Name x pp) (e :: es) [] pos) (tCallIO sp t) := ⟨PE.imp (pe_callS F hr hg hm hk hb (fun σ => L2N.passAt tk σ) ha.pa hdb he hpl) fun σ H Q ⟨M, ρ, q, xq, S, ht, hq, hx⟩ => by
  refine ⟨M, ρ, _, _, S, ht, fun vs M1 H1 ρ1 rs P1 S1 R1 h1 => ?_, hx⟩
  cases R1 with
  | nil => exact h1.elim
  | cons R0 n0 R1 =>
    rename_i v0 vs r0 rs
    cases r0 with
    | o i =>
      obtain ⟨⟨ds, ρ2⟩, e1, h2⟩ := some!_ok h1
      obtain ⟨M2, P2, S2, R2⟩ := settleL_ok P1.sim R1 e1
      obtain ⟨d, e2, h3⟩ := some!_ok h2
      have P12 := P1.trans S P2
      obtain ⟨a, hs, m, o, wa⟩ := own_at P2.sim e2
      obtain rfl : v0 = .ref a := by
        have z := R0.1
        rw [hs] at z
        cases z
        rfl
      refine ⟨P2.sim.tabs, a, vs, M2, d, ds, _, _, rfl, m, o, P2.sim.mok, R2, h3, fun v M' H' r y ok res h' => ?_, fun c M' H' y ok h' => hx c M' H' _ (P12.trans S (mut_gen P2.sim e2 hs ok.step ok.mok ok.hot ok.own)) h'⟩
      have P3 := mut_gen P2.sim e2 hs ok.step ok.mok ok.hot ok.own
      refine hq v M' H' _ r (P12.trans S P3) trivial ?_ h'
      cases r with
      | d y => exact RVok.dd res
      | n y =>
        obtain ⟨b, eb, f0, mb, nb, ob⟩ := res
        refine ⟨b, eb, mb, fun z => ?_, dom_back P12.step.dom f0, ob⟩
        exact P2.sim.mok b (P2.sim.hot (put_wr e2 z)) f0
      | o _ => exact res.elim
    | _ => exact h1.elim⟩
end
end DL

set_option Elab.async false
set_option linter.all false
set_option maxRecDepth 100000
set_option maxHeartbeats 4000000
namespace DL
open PySem PySem.Spec PyProof.Rows L2
section
variable {X : Cx} {p : Amb} {W : WX} {a b c e : Expr} {ta tb tc te : ET} {pos pos' : Pos} {x : Str}
theorem DE.imp {t u : ET} (h : DE X p W e t) (i : ∀ ρ q x, u ρ q x → t ρ q x) : DE X p W e u := ⟨PE.imp h.pe fun σ H Q ⟨M, ρ, q, xq, S, ht, hq, hx⟩ => ⟨M, ρ, q, xq, S, i ρ q xq ht, hq, hx⟩⟩
theorem DI.imp {t u : IT} {tg : Expr} (h : DI X p W tg e t) (i : ∀ ρ q x, u ρ q x → t ρ q x) : DI X p W tg e u := ⟨PI.imp h.pi fun σ H Q ⟨M, ρ, q, xq, S, ht, hq, hx⟩ => ⟨M, ρ, q, xq, S, i ρ q xq ht, hq, hx⟩⟩
theorem de_add (ha : DE X p W a ta) (hb : DE X p W b tb) : DE X p W (.BinOp a .Add b pos) (t2 fAdd ta tb) := de_op op_addA rAdd_ok ha hb
theorem de_sub (ha : DE X p W a ta) (hb : DE X p W b tb) : DE X p W (.BinOp a .Sub b pos) (t2 fSub ta tb) := de_op op_sub (rI0_ok fun _ _ _ _ => .int _) ha hb
theorem de_mul (ha : DE X p W a ta) (hb : DE X p W b tb) : DE X p W (.BinOp a .Mult b pos) (t2 fMul ta tb) := de_op op_mulA rMul_ok ha hb
theorem de_div (ha : DE X p W a ta) (hb : DE X p W b tb) : DE X p W (.BinOp a .FloorDiv b pos) (t2 fDiv ta tb) := de_op op_fdivW (rI_ok fun _ _ _ _ => .int _) ha hb
theorem de_mod (ha : DE X p W a ta) (hb : DE X p W b tb) : DE X p W (.BinOp a .Mod b pos) (t2 fMod ta tb) := de_op op_mod (rI_ok fun _ _ _ _ => .int _) ha hb
theorem de_pow (ha : DE X p W a ta) (hb : DE X p W b tb) : DE X p W (.BinOp a .Pow b pos) (t2 fPow ta tb) := de_op op_pow (rI_ok fun _ _ _ _ => .int _) ha hb
theorem de_shl (ha : DE X p W a ta) (hb : DE X p W b tb) : DE X p W (.BinOp a .LShift b pos) (t2 fShl ta tb) := de_op op_shlW (rI_ok fun _ _ _ _ => .int _) ha hb
theorem de_shr (ha : DE X p W a ta) (hb : DE X p W b tb) : DE X p W (.BinOp a .RShift b pos) (t2 fShr ta tb) := de_op op_shr (rI_ok fun _ _ _ _ => .int _) ha hb
theorem de_band (ha : DE X p W a ta) (hb : DE X p W b tb) : DE X p W (.BinOp a .BitAnd b pos) (t2 fAnd ta tb) := de_op op_and (rI0_ok fun _ _ _ _ => .int _) ha hb
theorem de_bxor (ha : DE X p W a ta) (hb : DE X p W b tb) : DE X p W (.BinOp a .BitXor b pos) (t2 fXor ta tb) := de_op op_xor (rI0_ok fun _ _ _ _ => .int _) ha hb
theorem de_neg (ha : DE X p W a ta) : DE X p W (.UnaryOp .USub a pos) (t1 fNeg ta) := de_un un_neg neg_ok ha
theorem lt_ok {K : PySem.W.Frag} : R2D K (rI0 fun i j => .bl (decide (i < j))) fLt := rI0_ok fun _ _ _ _ => .bl _
theorem le_ok {K : PySem.W.Frag} : R2D K (rI0 fun i j => .bl (decide (i ≤ j))) fLe := rI0_ok fun _ _ _ _ => .bl _
theorem gt_ok {K : PySem.W.Frag} : R2D K (rI0 fun i j => .bl (decide (j < i))) fGt := rI0_ok fun _ _ _ _ => .bl _
theorem ge_ok {K : PySem.W.Frag} : R2D K (rI0 fun i j => .bl (decide (j ≤ i))) fGe := rI0_ok fun _ _ _ _ => .bl _
theorem de_lt (ha : DE X p W a ta) (hb : DE X p W b tb) : DE X p W (.Compare a [.Lt] [b] pos) (t2 fLt ta tb) := de_cmp op_lt lt_ok ha hb (nomark _)
theorem de_le (ha : DE X p W a ta) (hb : DE X p W b tb) : DE X p W (.Compare a [.LtE] [b] pos) (t2 fLe ta tb) := de_cmp op_le le_ok ha hb (nomark _)
theorem de_gt (ha : DE X p W a ta) (hb : DE X p W b tb) : DE X p W (.Compare a [.Gt] [b] pos) (t2 fGt ta tb) := de_cmp op_gt gt_ok ha hb (nomark _)
theorem de_ge (ha : DE X p W a ta) (hb : DE X p W b tb) : DE X p W (.Compare a [.GtE] [b] pos) (t2 fGe ta tb) := de_cmp op_ge ge_ok ha hb (nomark _)
theorem db_lt (ha : DE X p W a ta) (hb : DE X p W b tb) : DB X p W (.Compare a [.Lt] [b] pos) (tT (t2 fLt ta tb)) := db_cmp op_lt lt_ok ha hb (nomark _)
theorem db_le (ha : DE X p W a ta) (hb : DE X p W b tb) : DB X p W (.Compare a [.LtE] [b] pos) (tT (t2 fLe ta tb)) := db_cmp op_le le_ok ha hb (nomark _)
theorem db_gt (ha : DE X p W a ta) (hb : DE X p W b tb) : DB X p W (.Compare a [.Gt] [b] pos) (tT (t2 fGt ta tb)) := db_cmp op_gt gt_ok ha hb (nomark _)
theorem db_ge (ha : DE X p W a ta) (hb : DE X p W b tb) : DB X p W (.Compare a [.GtE] [b] pos) (tT (t2 fGe ta tb)) := db_cmp op_ge ge_ok ha hb (nomark _)
theorem de_eq {k : Nat} (hr : Room k X.A) (ha : DE X p W a ta) (hb : DE X p W b tb) : DE X p W (.Compare a [.Eq] [b] pos) (t2 fEq ta tb) := de_cmp (op_eqD hr.units) rEq_ok ha hb (nomark _)
theorem de_ne {k : Nat} (hr : Room k X.A) (ha : DE X p W a ta) (hb : DE X p W b tb) : DE X p W (.Compare a [.NotEq] [b] pos) (t2 fNe ta tb) := de_cmp (op_neD hr.units) rNe_ok ha hb (nomark _)
theorem db_eq {k : Nat} (hr : Room k X.A) (ha : DE X p W a ta) (hb : DE X p W b tb) : DB X p W (.Compare a [.Eq] [b] pos) (tT (t2 fEq ta tb)) := db_cmp (op_eqD hr.units) rEq_ok ha hb (nomark _)
theorem db_ne {k : Nat} (hr : Room k X.A) (ha : DE X p W a ta) (hb : DE X p W b tb) : DB X p W (.Compare a [.NotEq] [b] pos) (tT (t2 fNe ta tb)) := db_cmp (op_neD hr.units) rNe_ok ha hb (nomark _)
theorem de_is (ha : DE X p W a ta) (hb : DE X p W b tb) : DE X p W (.Compare a [.Is] [b] pos) (t2 (fIs false) ta tb) := de_cmp op_isA rIs_ok ha hb (nomark _)
theorem de_isnot (ha : DE X p W a ta) (hb : DE X p W b tb) : DE X p W (.Compare a [.IsNot] [b] pos) (t2 (fIs true) ta tb) := de_cmp op_notA rIsNot_ok ha hb (nomark _)
theorem db_is (ha : DE X p W a ta) (hb : DE X p W b tb) : DB X p W (.Compare a [.Is] [b] pos) (tT (t2 (fIs false) ta tb)) := db_cmp op_isA rIs_ok ha hb (nomark _)
theorem db_isnot (ha : DE X p W a ta) (hb : DE X p W b tb) : DB X p W (.Compare a [.IsNot] [b] pos) (tT (t2 (fIs true) ta tb)) := db_cmp op_notA rIsNot_ok ha hb (nomark _)
theorem de_gi {i : Int} (hg : Gl X x) (hm : ∃ t, X.mg x = some (.int i t)) (hd : (x == ("__debug__" : Str)) = false := by decide) : DE X p W (.Name x pos) (tK (.int i)) := by
  obtain ⟨t, hm⟩ := hm
  exact de_gint hg hm hd
/-- built-ins by name -/
theorem de_len (hm : X.mg "len" = none) (ha : DE X p W a ta) (hg : Gl X "len" := by rfl) (he : starEach [a] X.env = (false, eval a X.env) :: starEach [] X.env := by rfl) : DE X p W (.Call (.Name "len" pos') [a] [] pos) (tC' fLen (aCons ta aNil)) := de_callB call_lenA len_ok hg hm PySem.boot_len (da_cons ha da_nil he) (by decide) (by decide) he rfl
theorem de_abs (hm : X.mg "abs" = none) (ha : DE X p W a ta) (hg : Gl X "abs" := by rfl) (he : starEach [a] X.env = (false, eval a X.env) :: starEach [] X.env := by rfl) : DE X p W (.Call (.Name "abs" pos') [a] [] pos) (tC' fAbs (aCons ta aNil)) := de_callB call_abs abs_ok hg hm (by decide +kernel) (da_cons ha da_nil he) (by decide) (by decide) he rfl
theorem de_int1 (hm : X.mg "int" = none) (ha : DE X p W a ta) (hg : Gl X "int" := by rfl) (he : starEach [a] X.env = (false, eval a X.env) :: starEach [] X.env := by rfl) : DE X p W (.Call (.Name "int" pos') [a] [] pos) (tC' fInt1 (aCons ta aNil)) := de_callTy call_int1 int1_ok hg hm (by decide +kernel) (da_cons ha da_nil he) (by decide) (by decide) he rfl
theorem de_tuple (hm : X.mg "tuple" = none) (ha : DE X p W a ta) (hg : Gl X "tuple" := by rfl) (he : starEach [a] X.env = (false, eval a X.env) :: starEach [] X.env := by rfl) : DE X p W (.Call (.Name "tuple" pos') [a] [] pos) (tC' fTuple (aCons ta aNil)) := de_callTy call_tuple_of tuple_ok hg hm (by decide +kernel) (da_cons ha da_nil he) (by decide) (by decide) he rfl
theorem de_list (hm : X.mg "list" = none) (ha : DE X p W a ta) (hg : Gl X "list" := by rfl) (he : starEach [a] X.env = (false, eval a X.env) :: starEach [] X.env := by rfl) : DE X p W (.Call (.Name "list" pos') [a] [] pos) (tC' fList (aCons ta aNil)) := de_callTy call_list_of list_ok hg hm (by decide +kernel) (da_cons ha da_nil he) (by decide) (by decide) he rfl
theorem de_max2 (hm : X.mg "max" = none) (hc : X.calm = true) (ha : DE X p W a ta) (hb : DE X p W b tb) (hg : Gl X "max" := by rfl) (he : starEach [a, b] X.env = (false, eval a X.env) :: starEach [b] X.env := by rfl) (he2 : starEach [b] X.env = (false, eval b X.env) :: starEach [] X.env := by rfl) (hpl : (backTo pos (starEach [b] X.env)).any (·.1) = false := by rfl) :
    DE X p W (.Call (.Name "max" pos') [a, b] [] pos) (tC' fMax2 (aCons ta (aCons tb aNil))) := de_callB (call_max2 hc) ints2_ok hg hm (by decide +kernel) (da_cons ha (da_cons hb da_nil he2) he) (by decide) (by decide) he hpl
theorem de_min2 (hm : X.mg "min" = none) (hc : X.calm = true) (ha : DE X p W a ta) (hb : DE X p W b tb) (hg : Gl X "min" := by rfl) (he : starEach [a, b] X.env = (false, eval a X.env) :: starEach [b] X.env := by rfl) (he2 : starEach [b] X.env = (false, eval b X.env) :: starEach [] X.env := by rfl) (hpl : (backTo pos (starEach [b] X.env)).any (·.1) = false := by rfl) :
    DE X p W (.Call (.Name "min" pos') [a, b] [] pos) (tC' fMin2 (aCons ta (aCons tb aNil))) := de_callB (call_min2 hc) ints2_ok hg hm (by decide +kernel) (da_cons ha (da_cons hb da_nil he2) he) (by decide) (by decide) he hpl
end

/-! ### isinstance -/
inductive TyN where
  | int | bool | tuple | list | str | dict
def TyN.name : TyN → String
  | .int => "int" | .bool => "bool" | .tuple => "tuple" | .list => "list" | .str => "str" | .dict => "dict"
def isD : TyN → D → Option Bool
  | _, .op _ => none
  | _, .dit _ => none
  | .int, .int _ => some true
  | .int, .bl _ => some true
  | .bool, .bl _ => some true
  | .tuple, .tup _ => some true
  | .tuple, .st _ => some true
  | .list, .lst _ => some true
  | .list, .fz _ => some true
  | .str, .str _ => some true
  | .dict, .dic _ => some true
  | _, _ => some false
def fIsi (T : TyN) : D → (RV → Prop) → Prop := fun d q => some! (isD T d) fun b => q (.d (.bl b))
def kindN : D → String
  | .non => "NoneType" | .bl _ => "bool" | .int _ => "int" | .str _ => "str" | .tup _ => "tuple" | .st _ => "tuple" | .lst _ => "list" | .fz _ => "list" | .dic _ => "dict" | .dit _ => "dict" | .op _ => ""
theorem isD_kit (T : TyN) (d : D) (b : Bool) (h : isD T d = some b) : kitB (kindN d) T.name = some b := by
  cases d with
  | op v => cases T <;> cases h
  | dit v => cases T <;> cases h
  | _ => cases T <;> cases h <;> (simp only [kindN, TyN.name]; decide +kernel)
theorem tyx_of {K : PySem.W.Frag} {M : Addr → Prop} {H : Hp} {v : V} {d : D} {T : TyN} {b : Bool} (h : RepC K M H v d) (e : isD T d = some b) : TyX K H v (.type (kindN d)) := by
  cases d with
  | op v => cases T <;> cases e
  | non => rw [h.non]; exact .base .non
  | bl _ => rw [h.bl]; exact .base (.bl _)
  | int _ => rw [h.int]; exact .base (.int _)
  | str _ => rw [h.str]; exact .base (.str _)
  | tup ds =>
    obtain ⟨a, xs, rfl, s, _⟩ := h.tup
    exact .base (.tup s)
  | st ds =>
    obtain ⟨a, xs, rfl, ⟨o, its, n, h1, h2, _⟩, _⟩ := h.st
    exact .kTuple h1 h2
  | lst ds =>
    obtain ⟨a, xs, rfl, h1, _⟩ := h.lst
    exact .base (.lst h1)
  | fz ds =>
    obtain ⟨a, xs, rfl, s, _⟩ := h.fz
    rcases s with ⟨h1 | ⟨o, h1⟩, _⟩ | ⟨o, its, n, h1, h2, _⟩
    · exact .base (.lst h1)
    · exact .base (.frz h1)
    · exact .kList h1 h2
  | dic ds =>
    obtain ⟨a, xs, rfl, h1, _⟩ := h.dic
    rcases h1 with h1 | ⟨o, h1⟩
    · exact .base (.dK h1)
    · exact .fDict h1
  | dit ds => cases T <;> cases e
def fIsi2 (T : TyN) : List D → (RV → Prop) → Prop := fun ds q => match ds with
  | [d, .op (.ty n)] => n = T.name ∧ fIsi T d q
  | _ => False
theorem isi_ok {K : PySem.W.Frag} {T : TyN} : RCD K (rIsi K) (fIsi2 T) := by
  intro M H vs ds Q q mok r h k
  unfold fIsi2 at h
  split at h
  · obtain ⟨v, u, rfl, r1, r2⟩ := r.two
    obtain ⟨rfl, h⟩ := h
    obtain ⟨b, e, h⟩ := some!_ok h
    exact ⟨v, u, _, _, b, rfl, by rw [r2.op]; exact .ty _, tyx_of r1 e, kit_ty (isD_kit T _ b e), k _ M H _ (ResOk.same mok (.bl _)) h⟩
  · exact h.elim
theorem rd_cool (ρ : Ev) (r : RV) : rd ρ (cool r) = rd ρ r := by cases r <;> rfl
section
variable {X : Cx} {p : Amb} {W : WX} {a : Expr} {ta : ET} {pos pos' pos2 : Pos}
theorem de_isi (T : TyN) {x : Str} (hm : X.mg "isinstance" = none) (hmT : X.mg x = none) (hbT : bootBuiltins x = some (.type T.name)) (ha : DE X p W a ta) (hg : Gl X "isinstance" := by rfl) (hgT : Gl X x := by rfl) (hn : x ≠ "__name__" := by decide) (hd : (x == ("__debug__" : Str)) = false := by decide)
    (he : starEach [a, .Name x pos2] X.env = (false, eval a X.env) :: starEach [.Name x pos2] X.env := by rfl) (he2 : starEach [.Name x pos2] X.env = (false, eval (.Name x pos2) X.env) :: starEach [] X.env := by rfl) (hpl : (backTo pos (starEach [.Name x pos2] X.env)).any (·.1) = false := by rfl) :
    DE X p W (.Call (.Name "isinstance" pos') [a, .Name x pos2] [] pos) (t1 (fIsi T) ta) :=
  DE.imp (de_callB call_isi (isi_ok (T := T)) hg hm (by decide +kernel) (da_cons ha (da_cons (de_k (x := .op (.ty T.name)) (pe_bltn hgT hmT hbT (v := .ty T.name) rfl hn hd) fun _ _ => .op _) da_nil he2) he) (by decide) (by decide) he hpl) fun ρ q x h => by
    have e : (fun r ρ1 => f1 (fIsi T) (rd ρ1 r) fun z => q z ρ1) = fun r ρ1 => some! (rdL ρ1 [cool r, cool (RV.d (.op (.ty T.name)))]) fun ds => fIsi2 T ds fun z => q z ρ1 := by
      funext r ρ1
      have e2 : rdL ρ1 [cool r, cool (RV.d (.op (.ty T.name)))] = match rd ρ1 r with
        | some d => some [d, .op (.ty T.name)]
        | none => none := by
        show (match rd ρ1 (cool r), rdL ρ1 [RV.d (.op (.ty T.name))] with
          | some x, some xs => some (x :: xs)
          | _, _ => none) = _
        rw [rd_cool]
        cases rd ρ1 r <;> rfl
      rw [e2]
      cases rd ρ1 r with
      | none => rfl
      | some d => exact propext ⟨fun h => ⟨rfl, h⟩, fun h => h.2⟩
    have h : ta ρ (fun r ρ1 => f1 (fIsi T) (rd ρ1 r) fun z => q z ρ1) x := h
    rw [e] at h
    exact h
end
end DL

set_option Elab.async false
set_option linter.all false
set_option maxRecDepth 100000
set_option maxHeartbeats 4000000
namespace DL
open PySem PySem.Spec PyProof.Rows L2 RT
section
variable {prog : Program} {w : World} {A : Around} {E : Value → Shared → Prop} {s : Shared}
/-- list(it), it the walk of the list l from its end -/
theorem list_of_rev {it l : Addr} {items : Array Value} {Q : Value → Shared → Prop} (hh : A.handled = none) (hit : s.heap.IsRevIter it l ((items.size : Int) - 1)) (hl : s.heap.IsList l items) (hne : l ≠ it) (hn : items.size ≤ sizeLine)
    (hQ : ∀ (s' : Shared) (acc : Array Value) (c : Nat), (∀ b o, b ≠ it → s.heap.get? b = some o → s'.heap.get? b = some o) → s'.os = s.os → s'.gens = s.gens → s'.drawn = s.drawn → s.heap.get? s.heap.objs.size = none →
      s'.heap.get? s.heap.objs.size = some { cls := .type "list", dict := none, data := .seq acc c, slots := #[] } → ItemsOf (fun i v => items[items.size - 1 - i]? = some v) acc items.size → Q (.ref s.heap.objs.size) s') :
    wpAny (model prog w) A (call (.type "list") [.ref it]) Q E s := by
  obtain ⟨oi, hoi, _⟩ := id hit
  obtain ⟨ol, hol, _⟩ := id hl
  have hSi : s.heap.objs.size ≠ it := Nat.ne_of_gt (Heap.lt_size hoi)
  have hSl : s.heap.objs.size ≠ l := Nat.ne_of_gt (Heap.lt_size hol)
  have hSf : s.heap.objs.size ∉ [it, l] := by simp only [List.mem_cons, List.not_mem_nil, or_false, not_or]; exact ⟨hSi, hSl⟩
  refine callType_codes (Q₁ := fun obj s₁ => obj = .ref s.heap.objs.size ∧ s₁ = { s with heap := s.heap.push { cls := .type "list", data := .seq #[] } }) F.called_list (F.typeCall_list_1 _) F.entry_list_init (code_list_new _ ⟨rfl, rfl⟩) fun obj s₁ h₁ => ?_
  obtain ⟨rfl, rfl⟩ := h₁
  have hS : (s.heap.push { cls := .type "list", data := .seq #[] }).get? s.heap.objs.size = some { cls := .type "list", data := .seq #[] } := Heap.get?_push_size _ rfl
  refine ⟨⟨_, hS, rfl⟩, F.args_list_init_2 _ _, ?_⟩
  generalize hs1 : ({ s with heap := s.heap.push { cls := .type "list", data := .seq #[] } } : Shared) = s1 at *
  have W := (Walks.listRev (prog := prog) (w := w) (A := A.in1.in1) hh it l hne items).toS
  show wpAny _ A.in1.in1 (do let old ← Builtin.List.listItems (.ref s.heap.objs.size); Builtin.List.listUpdate (.ref s.heap.objs.size) (fun _ => #[]); letGo old.toList.reverse; Builtin.List.listExtendWith (.ref s.heap.objs.size) (.ref it) .none) _ _ _
  refine wpAny_bind ?_
  unfold Builtin.List.listItems
  have hS' : s1.heap.get? s.heap.objs.size = some { cls := .type "list", data := .seq #[] } := by rw [← hs1]; exact hS
  refine wpAny_bind (wpAny_seqItems hS' rfl (wpAny_pure ?_))
  show wpAny _ A.in1.in1 (updateSeq s.heap.objs.size (fun _ => #[]) >>= fun _ => letGo (#[] : Array Value).toList.reverse >>= fun _ => Builtin.List.listExtendWith (.ref s.heap.objs.size) (.ref it) .none) _ _ _
  refine wpAny_bind (wpAny_updateSeq hS' rfl ?_)
  have hS₂ := Heap.get?_update_self (Obj.mapSeq (fun _ => (#[] : Array Value))) hS' rfl
  have oth : ∀ b o, b ≠ s.heap.objs.size → s1.heap.get? b = some o → (s1.heap.update s.heap.objs.size (Obj.mapSeq (fun _ => (#[] : Array Value)))).get? b = some o :=
    fun b o hb e => (Heap.get?_update_other _ _ (Ne.symm hb)).trans e
  have k1 : ∀ b o, s.heap.get? b = some o → s1.heap.get? b = some o := fun b o e => by rw [← hs1]; exact Heap.get?_push_of_some _ e
  refine wpAny_bind (wpAny_letGo ?_)
  generalize hh2 : s1.heap.update s.heap.objs.size (Obj.mapSeq (fun _ => (#[] : Array Value))) = h2 at *
  have k2 : ∀ b o, s.heap.get? b = some o → h2.get? b = some o := fun b o e => oth b o (Nat.ne_of_lt (Heap.lt_size e)) (k1 b o e)
  have hit2 : h2.IsRevIter it l ((items.size : Int) - 1) := hit.at fun o e => k2 it o e
  have hl2 : h2.IsList l items := by
    obtain ⟨o, ho, c, n, d⟩ := id hl
    exact ⟨o, k2 l o ho, c, n, d⟩
  have hT : ({ s1 with heap := h2 } : Shared).TypeIs (.ref it) "list_reverseiterator" := Heap.IsRevIter.typeIs (s := { s1 with heap := h2 }) hit2
  have h1 : Builtin.List.listSameRef (.ref s.heap.objs.size) (.ref it) = false := by simp [Builtin.List.listSameRef, hSi]
  unfold Builtin.List.listExtendWith
  refine wpAny_bind (wpAny_typeOf hT ?_)
  rw [if_neg (by rw [h1]; decide)]
  refine wpAny_bind (wpAny_pyIter_revIter (s := { s1 with heap := h2 }) hit2 ?_)
  refine wpAny_bind (wpAny_holding ?_)
  unfold Builtin.List.listLengthHint
  refine wpAny_bind (wpAny_specialOf hT nolen_lri ?_)
  show wpAny _ A.in1.in1 (specialOf (Value.ref it) (Str.ofString "__length_hint__") >>= _) _ _ _
  refine wpAny_bind (wpAny_specialOf hT hint_lri ?_)
  generalize hid : ("list_reverseiterator.__length_hint__" : String) = id0
  wp_delta
  rw [show splitId id0 = some ("list_reverseiterator", "__length_hint__") from by subst hid; decide +kernel]
  subst hid
  refine wpAny_bind (wpAny_isInstance (b := true) hT (by rw [isSubtype_type]; kernel_rfl) ?_)
  refine wpAny_pure ?_
  rw [if_neg (by decide)]
  have e0 : ((items.size : Nat) : Int) - 1 - ((0 : Nat) : Int) = (items.size : Int) - 1 := by omega
  refine wpAny_pure ⟨plainId_quiet F.plain_extend_loop _, codeAny_extend_loopS W hn _ hSf _ items.size 0 _ _ _ rfl (Nat.zero_le _) ⟨Nat.zero_le _, by rw [e0]; exact hit2, hl2⟩ hS₂ (ItemsOf.nil _) fun s' acc' c' hm hS' hacc => ?_⟩
  refine ⟨rfl, hQ s' acc' c' (fun b o hb e => hm.heap b o (fun hmem => ?_) (k2 b o e)) ?_ ?_ ?_ (Heap.get?_none_of_le (Nat.le_refl _)) hS' hacc⟩
  · rcases List.mem_cons.mp hmem with e' | hmem
    · exact absurd (Heap.lt_size e) (by rw [e']; exact Nat.lt_irrefl _)
    · exact hb (List.mem_singleton.mp hmem)
  all_goals rw [Moved.eq_with hm, ← hs1]
end
/-- list(reversed(x)), x a list: a new list -/
def tLstRev (K : PySem.W.Frag) (te : TE) : TE := fun σ H Q => te σ H fun v H1 => ∃ (a : Addr) (xs : List V), v = .ref a ∧ SqL K H1 a xs ∧ ∀ q, H1 q = none → Q (.ref q) (upd H1 q (.lst xs.reverse))
section
variable {X : Cx}
theorem pe_lstRev {e : Expr} {te : TE} {p p2 pos pos2 : Pos} (hc : X.calm = true) (hg : Gl X "list") (hm : X.mg "list" = none) (hg2 : Gl X "reversed") (hm2 : X.mg "reversed" = none) (he : PE X e te)
    (hs : starEach [e] X.env = (false, eval e X.env) :: starEach [] X.env := by rfl)
    (hs2 : starEach [.Call (.Name "reversed" p2) [e] [] pos2] X.env = (false, eval (.Call (.Name "reversed" p2) [e] [] pos2) X.env) :: starEach [] X.env := by rfl) :
    PE X (.Call (.Name "list" p) [.Call (.Name "reversed" p2) [e] [] pos2] [] pos) (tLstRev X.K te) := ⟨fun pins s σ H Q I h => by
  refine Call_ (ld_blt I hg hm PyProof.Rows.boot_list (PyProof.Rows.callWith_type1 (args_cons (Call_ (ld_blt I hg2 hm2 PyProof.Rows.boot_reversed (PyProof.Rows.callWith_type1 (args_cons (thn (he.run pins s σ H _ I h) fun u s1 hu => args_nil ?_) hs) hs rfl))) hs2) hs2 rfl))
  obtain ⟨v, H1, I1, r1, a, xs, ev, hq, q⟩ := hu
  subst ev
  obtain rfl : u = Value.ref a := r1
  obtain ⟨its, rv, p', hz⟩ := I1.list hq
  refine call_reversed_list p'.isList (args_nil ?_)
  have k0 : ∀ b o, s1.heap.get? b = some o → (s1.heap.push (revObj a ((its.toArray.size : Int) - 1))).get? b = some o := fun b o e => Heap.get?_push_of_some _ e
  have I2 : Inv X pins σ H1 { s1 with heap := s1.heap.push (revObj a ((its.toArray.size : Int) - 1)) } := I1.kept (t' := s1.toks) k0
  obtain ⟨f0, f1, f2, f3, f4, f5⟩ := I1.fpOk (H' := H1) (b := s1.heap.objs.size) (Nat.le_refl _) I1.fresh
  have hl := p'.isList
  obtain ⟨ol, hol, _⟩ := id hl
  have hne : a ≠ s1.heap.objs.size := Nat.ne_of_lt (Heap.lt_size hol)
  have hn : its.toArray.size ≤ sizeLine := by rw [List.size_toArray, ← rv.length]; exact hz
  refine list_of_rev (s := { s1 with heap := s1.heap.push (revObj a ((its.toArray.size : Int) - 1)) }) (I1.ok.hd hc) ⟨_, Heap.get?_push_size _ rfl, rfl, rfl⟩ (hl.push _) hne hn fun s' acc c hk e1 e2 e3 hno hS hi => ?_
  have hd : (s1.heap.push (revObj a ((its.toArray.size : Int) - 1))).objs.size ≠ s1.heap.objs.size := by rw [Heap.size_push]; exact Nat.succ_ne_self _
  have hfr : H1 (s1.heap.push (revObj a ((its.toArray.size : Int) - 1))).objs.size = none := I2.hok.fresh (Nat.le_refl _)
  have hlay : ((s1.heap.push (revObj a ((its.toArray.size : Int) - 1))).push { cls := .type "list", dict := none, data := .seq acc c, slots := #[] }).get? (s1.heap.push (revObj a ((its.toArray.size : Int) - 1))).objs.size = some { cls := .type "list", dict := none, data := .seq acc c, slots := #[] } := Heap.get?_push_size _ rfl
  have I3 := I2.laid (t' := s1.toks) (o := .lst xs.reverse) (a := (s1.heap.push (revObj a ((its.toArray.size : Int) - 1))).objs.size) (h' := (s1.heap.push (revObj a ((its.toArray.size : Int) - 1))).push { cls := .type "list", dict := none, data := .seq acc c, slots := #[] }) (fun b o e => Heap.get?_push_of_some _ e) (Nat.le_refl _)
    (show ObjOk X.prog X.w _ _ _ (.lst xs.reverse) from ⟨by rw [List.length_reverse]; exact hz, acc.toList, c, vals_rev rv hi, by rw [Array.toArray_toList]; exact hlay⟩)
  have I4 := I3.turned (it := s1.heap.objs.size) (h' := s'.heap) (t' := s'.toks) (fun b o hb e => by
    by_cases hbn : b = (s1.heap.push (revObj a ((its.toArray.size : Int) - 1))).objs.size
    · subst hbn
      rw [hlay] at e
      cases e
      exact hS
    · refine hk b o hb ?_
      rcases Heap.get?_push_cases e with ⟨z, _⟩ | z
      · exact absurd z hbn
      · exact z) (by rw [upd_ne hd.symm]; exact f0) f1 f3 f4 f5
  refine ⟨.ref _, _, ?_, rfl, q _ hfr⟩
  obtain ⟨sh, sg, sd, st, so⟩ := s'
  dsimp only at e1 e2 e3 I4
  subst e1 e2 e3
  exact I4⟩
variable {p0 : Amb} {W : WX}
def fLRev : D → (RV → Prop) → Prop := fun d q => match d with
  | .lst xs => q (.n (.lst xs.reverse))
  | _ => False
theorem de_lrev {e : Expr} {te : ET} {p p2 pos pos2 : Pos} (hc : X.calm = true) (hm : X.mg "list" = none) (hm2 : X.mg "reversed" = none) (he : DE X p0 W e te) (hg : Gl X "list" := by rfl) (hg2 : Gl X "reversed" := by rfl)
    (hs : starEach [e] X.env = (false, eval e X.env) :: starEach [] X.env := by rfl)
    (hs2 : starEach [.Call (.Name "reversed" p2) [e] [] pos2] X.env = (false, eval (.Call (.Name "reversed" p2) [e] [] pos2) X.env) :: starEach [] X.env := by rfl) :
    DE X p0 W (.Call (.Name "list" p) [.Call (.Name "reversed" p2) [e] [] pos2] [] pos) (t1 fLRev te) :=
  ⟨PE.imp (pe_lstRev hc hg hm hg2 hm2 he.pe hs hs2) fun σ H Q h => t1_ok (r := fun v H1 Q => ∃ (a : Addr) (xs : List V), v = .ref a ∧ SqL X.K H1 a xs ∧ ∀ q, H1 q = none → Q (.ref q) (upd H1 q (.lst xs.reverse))) (fun M H x a Q q mok ra h k => by
    cases a with
    | lst ds =>
      obtain ⟨b, xs, e, hx, r⟩ := ra.lst
      exact ⟨b, xs, e, SqL.of hx, fun l hl => k _ _ _ _ (ResOk.lst mok hl r.rev) h⟩
    | _ => exact h.elim) h⟩
end
end DL

set_option Elab.async false
set_option linter.all false
set_option maxRecDepth 100000
set_option maxHeartbeats 4000000
namespace DL
open PySem PySem.Spec PyProof.Rows L2
/-! ### raise -/
/-- what the top says of an error class of one's own -/
structure ErrC (K : PySem.W.Frag) (mg : Str → Option Value) (x : Str) (C : Addr) : Prop where
  ex : PySem.W.excIn K C [.type "ValueError", .type "Exception", .type "BaseException", .type "object"] "ValueError.__new__" = true
  gC : mg x = some (.ref C)
  kC : PySem.W.keepIn K (.ref C) = true
  bC : PySem.W.subIn K (.ref C) (.type "BaseException") = some true
  tC : PySem.W.typeIn K (.ref C) = some (.type "type")
def sRaise (C : Addr) : ST := fun e ρ => e.xc C ρ
section
variable {X : Cx} {p : Amb} {W : WX}
theorem ds_raise {x m : Str} {C : Addr} {j : Nat} {p1 p2 p3 pos : Pos} (hc : X.calm = true) (tk : L2N.Takes X W) (E : ErrC X.K X.mg x C) (hg : Gl X x := by rfl) (hdb : (x == ("__debug__" : Str)) = false := by decide) :
    DS X p W (.Raise (some (.Call (.Name x p1) [.Constant (.str m) j p2] [] p3)) none pos) (sRaise C) :=
  ⟨PS.imp (L2N.ps_raise hc tk (L2N.pmk_own PySem.F.excBase_ValueError E.ex E.gC E.kC (raises_own E.bC E.tC) hg hdb)) fun D σ H ⟨M, ρ, e, S, h, l⟩ => l.xc C M σ H ρ (Post.refl S) h⟩
theorem takesNo (hx : X.xe = fun _ _ => False) : L2N.Takes X wNo := fun _ _ ⟨_, _, _, _, _, _, _, _, _, _, _, _, _, _, _, _, z⟩ => z.elim
end

/-! ### within an except suite: a list's walk -/
section
variable {prog : Program} {w : World} {A : Around} {E : Value → Shared → Prop} {s : Shared}
open HotX in
theorem list_end_hot {it l x1 : Addr} {i : Nat} {items : Array Value} {Q : Option Value → Shared → Prop} (hot : HotAt A x1 s.heap) (hit : s.heap.IsListIter it l i) (hl : s.heap.IsList l items) (hx : items[i]? = none) (n1 : x1 ≠ it)
    (hQ : ∀ h', (∀ b o, b ≠ it → s.heap.get? b = some o → h'.get? b = some o) → Q none { s with heap := h' }) : wpAny (model prog w) A (pyNext (.ref it)) Q E s := by
  obtain ⟨hh, o1, vs1, h1, d1, c1⟩ := hot
  obtain ⟨o, ho, hc, hd⟩ := id hit
  obtain ⟨ol, hol, _, nl, hdl⟩ := hl
  unfold pyNext
  refine wpAny_bind (wpAny_attempt (wpAny_callSpecial?_slot (name := Str.ofString "__next__") hit.typeIs slot_listiter_next (wpAny_call_entry slot_listiter_next hit.typeIs entry_listiter_next ?_ (args_listiter_next _))))
  show wpAny _ _ (field (.ref it) 0 >>= _) _ _ s
  refine wpAny_bind (wpAny_field ho hd (x := .ref l) rfl ?_)
  show wpAny _ _ (if (Value.ref l == Value.none) = true then _ else _) _ _ s
  rw [if_neg (show ¬ ((Value.ref l == Value.none) = true) from Bool.false_ne_true)]
  show wpAny _ _ (field (.ref it) 1 >>= _) _ _ s
  refine wpAny_bind (wpAny_field ho hd (x := .int i 0) rfl ?_)
  show wpAny _ _ (seqItems? (.ref l) >>= _) _ _ s
  refine wpAny_bind (wpAny_seqItems hol hdl ?_)
  simp only [Int.toNat_natCast, hx]
  refine wpAny_bind (wpAny_rule (wpAny_bind (wpAny_setField ho hd (by simp) ?_)))
  show wpAny _ _ (newExc (.type "StopIteration") [] >>= _) _ _ _
  have up : ∀ b u, b ≠ it → s.heap.get? b = some u → (s.heap.update it (Obj.mapFields (·.setIfInBounds 0 Value.none))).get? b = some u := fun b u hb e => (Heap.get?_update_other _ _ (Ne.symm hb)).trans e
  refine wpAny_bind ?_
  simp only [newExc, newTuple]
  refine wpAny_bind (wpAny_newObj_type ?_ (by size_fits))
  refine wpAny_bind (m := firstArgMember _ _) (wpAny_of_eq (a := Value.none) (by first | rfl | (simp only [firstArgMember]; rfl)) ?_)
  refine wpAny_newObj_type ?_ (by size_fits)
  refine raiseNew_hot ⟨hh, o1, vs1, Heap.get?_push_of_some _ (Heap.get?_push_of_some _ (up _ _ n1 h1)), d1, c1⟩ (Nat.ne_of_lt (Heap.lt_size (Heap.get?_push_of_some _ (up _ _ n1 h1)))) (Heap.get?_push_size _ rfl) rfl (by first | (simp; done) | (simp; omega)) ?_
  refine wpAny_bind (wpAny_isInstance (T := "StopIteration") (b := true) ⟨_, Heap.get?_update_self _ (Heap.get?_push_size _ rfl) rfl, rfl⟩ isSubtype_stop ?_)
  refine wpAny_pure (hQ _ fun b u hb e => ?_)
  have e2 := Heap.get?_push_of_some (o := { cls := .type "tuple", data := .seq ([] : List Value).toArray }) (up b u hb e)
  rw [Heap.get?_update_other _ _ (Nat.ne_of_gt (Heap.lt_size e2))]
  exact Heap.get?_push_of_some _ e2
end

/-! ### a comprehension over a list, within an except suite -/
open L2H in
/-- [e for x in l if ..]: g the target's reading, tt the test's, te the element's; Pv by the turn and the heap, the new list at D -/
def tLcHot (K : PySem.W.Frag) (tl : TE) (g : TG) (tt : TT) (te : TE) (vs : List Nat) : TE := fun σ H Q => tl σ H fun x H1 => ∃ a xs, x = .ref a ∧ SqL K H1 a xs ∧ ∀ D, H1 D = none → ∃ Pv : Nat → Hp → Prop, Pv 0 (upd H1 D (.lst [])) ∧
  (∀ i H, Pv i H → SqL K H a xs) ∧ (∀ i x H, xs[i]? = some x → Pv i H → g x (wipe σ vs) H fun σ2 H2 => wipe σ2 vs = wipe σ vs ∧ tt σ2 H2 fun b H3 =>
    if b = true then te σ2 H3 fun y H4 => ∃ acc, H4 D = some (.lst acc) ∧ acc.length < sizeLine ∧ Pv (i + 1) (upd H4 D (.lst (acc ++ [y]))) else Pv (i + 1) H3) ∧ (∀ H, Pv xs.length H → Q (.ref D) H)
section
variable {X : Cx}
open L2H HotX in
theorem pe_lcHot {elt tg l : Expr} {ifs : List Expr} {scope : Scope} {own : List (Str × Nat)} {pos : Pos} {tl : TE} {g : TG} {tt : TT} {te : TE} (hot : HotC X) (hN : X.N.Nodup) (hl : PE X l tl) (ok : BlkOk X.N X.env.scope scope own)
    (hg : ∀ (s : Shared) (H : Hp) (C : Addr) (cl : List (Str × Addr)) (fp : List Addr), PG (X.blk s H scope (compEnvC scope cl C X.env) fp) tg g) (ht : ∀ (s : Shared) (H : Hp) (C : Addr) (cl : List (Str × Addr)) (fp : List Addr), PTs (X.blk s H scope (compEnvC scope cl C X.env) fp) ifs tt)
    (he : ∀ (s : Shared) (H : Hp) (C : Addr) (cl : List (Str × Addr)) (fp : List Addr), PE (X.blk s H scope (compEnvC scope cl C X.env) fp) elt te) (hs : ∀ x, foldedSetIterable l X.env x = pure x := by intro _; rfl) :
    PE X (.ListComp elt [⟨tg, l, ifs, 0⟩] scope pos) (tLcHot X.K tl g tt te (own.map (·.2))) := ⟨fun pins s σ H Q I h => by
  obtain ⟨p, ⟨hh, v1, e1, c1⟩, hp⟩ := hot
  have hfree : ∀ y ∈ scope.names, y.2 = .free → ∃ c, X.env.cells.lookup y.1 = some c := fun y hy e => (ok.free y hy e).elim (fun k => I.ok.has _ (.inl k)) fun k => I.ok.has _ (.inr k)
  rw [eval_ListComp]
  refine wpAny_comprehension_free (use := none) rfl hs (closure_ok hfree) ok.kind (fun y hy e => by rw [ok.uniq y hy, e]) (thn (hl.run pins s σ H _ I h) fun xv s1 hx => ?_)
  obtain ⟨x, H1, I1, rx, a, xs, rfl, hq, kk⟩ := hx
  cases rx
  obtain ⟨us, vu, pl, hz⟩ := I1.list hq
  refine wpAny_pyIter_list pl.isList ?_
  have I2 : Inv X pins σ H1 { s1 with heap := s1.heap.push { cls := .type "list_iterator", data := .fields #[.ref a, .int 0 0] } } := I1.kept (t' := s1.toks) fun b o e => Heap.get?_push_of_some _ e
  have T0 : ({ s1 with heap := s1.heap.push { cls := .type "list_iterator", data := .fields #[.ref a, .int 0 0] } } : Shared).heap.IsListIter s1.heap.objs.size a 0 := ⟨_, Heap.get?_push_size _ rfl, rfl, rfl⟩
  have F0 : FpOk X pins H1 s1.heap.objs.size := I1.fpOk (Nat.le_refl _) I1.fresh
  generalize hit : s1.heap.objs.size = it at T0 F0 ⊢
  generalize hs2 : ({ s1 with heap := s1.heap.push { cls := .type "list_iterator", data := .fields #[.ref a, .int 0 0] } } : Shared) = s2 at I2 T0 ⊢
  refine wpAny_newObj_type (newEnv_comp ?_) (by show 0 ≤ sizeLine; decide)
  generalize hD : s2.heap.objs.size = D
  have hDn : H1 D = none := I2.hok.fresh (Nat.le_of_eq hD)
  have itlt : it < s2.heap.objs.size := by
    obtain ⟨o, e, _⟩ := T0
    exact Heap.lt_size e
  obtain ⟨Pv, w0, stay, turn, done⟩ := kk D hDn
  generalize hs3 : ({ s2 with heap := s2.heap.push { cls := .type "list", data := .seq ([] : List Value).toArray } } : Shared) = s3
  have h3 : s3.heap = s2.heap.push { cls := .type "list", data := .seq ([] : List Value).toArray } := by rw [← hs3]
  have I3 : Inv X pins σ (upd H1 D (.lst [])) s3 := by
    rw [← hs3]
    refine I2.laid (t' := s2.toks) (fun b o e => Heap.get?_push_of_some _ e) (Nat.le_of_eq hD) ⟨Nat.zero_le _, [], 0, .nil, ?_⟩
    rw [← hD]
    exact Heap.get?_push_size _ rfl
  have F3 : ∀ b ∈ [it], FpOk X pins (upd H1 D (.lst [])) b ∧ b < s3.heap.objs.size := fun b hb => by
    rw [List.mem_singleton.mp hb]
    exact ⟨⟨by rw [upd_ne (by rw [← hD]; exact Nat.ne_of_lt itlt)]; exact F0.1, F0.2⟩, by rw [h3, Heap.size_push]; exact Nat.lt_succ_of_lt itlt⟩
  have T3 : s3.heap.IsListIter it a 0 := T0.at fun o e => by rw [h3]; exact Heap.get?_push_of_some _ e
  have I4 := block_start I3 ok hN F3
  have pg := hg s3 (upd H1 D (.lst [])) s3.heap.objs.size (cellsFrom (s3.heap.objs.size + 1) scope.names (cloFrom X.env.cells scope.names [])) [it]
  have pt := ht s3 (upd H1 D (.lst [])) s3.heap.objs.size (cellsFrom (s3.heap.objs.size + 1) scope.names (cloFrom X.env.cells scope.names [])) [it]
  have pe := he s3 (upd H1 D (.lst [])) s3.heap.objs.size (cellsFrom (s3.heap.objs.size + 1) scope.names (cloFrom X.env.cells scope.names [])) [it]
  -- the exception that is handled, as it stands within the block
  have PP := I3.pin p (List.mem_append_left _ hp)
  have pnf : p.1 ∉ frs X.stack := fun hm => (List.mem_cons.mp (I3.stkSub p.1 hm)).elim PP.2.2.1 PP.2.2.2.1
  have pni : p.1 ≠ it := fun z => by
    have q := F0.2.2.2.2.2 p (List.mem_append_left _ hp)
    exact q z
  show codeAny _ _ (.compStart (.ListComp elt [⟨tg, l, ifs, 0⟩] scope pos) 0 (.ref it) (.ref D) (compEnvC scope (cellsFrom (s3.heap.objs.size + 1) scope.names (cloFrom X.env.cells scope.names [])) s3.heap.objs.size X.env)) (compPost (model X.prog X.w) X.A X.xe none (EP X pins σ Q) (.ref D) s3.heap.objs.size) { s3 with heap := pushCells (s3.heap.push { cls := .type "dict", data := .dict #[] }) scope.names }
  generalize hce : compEnvC scope (cellsFrom (s3.heap.objs.size + 1) scope.names (cloFrom X.env.cells scope.names [])) s3.heap.objs.size X.env = ce at I4 pg pt pe ⊢
  have cL : ce.locals = s3.heap.objs.size := by subst hce; rfl
  generalize hH3 : upd H1 D (.lst []) = H3 at I3 I4 pg pt pe w0 F3 PP
  generalize hs4 : ({ s3 with heap := pushCells (s3.heap.push { cls := .type "dict", data := .dict #[] }) scope.names } : Shared) = s4 at I4 ⊢
  have T4 : s4.heap.IsListIter it a 0 := T3.at fun o e => by rw [← hs4]; exact pushCells_keeps _ _ _ _ (Heap.get?_push_of_some _ e)
  have hotB : ∀ {pn : List (Addr × Obj)} {σ' : L2.St} {H' : Hp} {s' : Shared}, Inv (X.blk s3 H3 scope ce [it]) pn σ' H' s' → HotAt X.A p.1 s'.heap := fun {pn σ' H' s'} I' =>
    ⟨hh, p.2, v1, I'.base.keep p.1 p.2 PP.1 PP.2.1 pnf fun z => pni (List.mem_singleton.mp z), e1, c1⟩
  have stat : ∀ {σ' : L2.St} {H' : Hp} {s' : Shared}, Inv (X.blk s3 H3 scope ce [it]) [] σ' H' s' → H' it = none → FpOk (X.blk s3 H3 scope ce [it]) [] H' it := fun {σ' H' s'} I' hn =>
    ⟨hn, (I'.ok.exf it List.mem_cons_self).1, I'.ok.exfs it List.mem_cons_self, .inl List.mem_cons_self, fun x c e => (I'.ok.exf it List.mem_cons_self).2 x c e, fun q hq => absurd (show q ∈ ([] : List (Addr × Obj)) ++ [] from hq) (by simp)⟩
  have loop : codeAny (model X.prog X.w) X.A (.compLoop (.ListComp elt [⟨tg, l, ifs, 0⟩] scope pos) 0 (.ref it) (.ref D) ce) (compPost (model X.prog X.w) X.A X.xe none (EP X pins σ Q) (.ref D) s3.heap.objs.size) s4 := by
    refine compLoop_any (fun n s' => ∃ i H', i + n = xs.length ∧ Inv (X.blk s3 H3 scope ce [it]) [] (wipe σ (own.map (·.2))) H' s' ∧ s'.heap.IsListIter it a i ∧ H' it = none ∧ Pv i H') ?_ xs.length ⟨0, H3, Nat.zero_add _, I4, T4, (F3 it List.mem_cons_self).1.1, w0⟩
    rintro n s5 ⟨i, H5, en, I5, T5, n5, w5⟩
    have q5 := stay i H5 w5
    obtain ⟨us5, vu5, pl5, hz5⟩ := I5.list q5
    obtain ⟨f0, f1, f2, f3, f4, f5⟩ := stat I5 n5
    by_cases hlt : i < xs.length
    · obtain ⟨u, hu, ru⟩ := vu5.get (List.getElem?_eq_getElem hlt)
      refine wpAny_pyNext_list_item T5 pl5.isList (x := u) (by simpa using hu) fun h' T6 sb => ?_
      have I6 : Inv (X.blk s3 H3 scope ce [it]) [] (wipe σ (own.map (·.2))) H5 { s5 with heap := h' } := I5.turned (t' := s5.toks) (fun b o hb e => (sb.2 b hb).trans e) f0 f1 f3 f4 f5
      obtain ⟨oi, ei, ci, di⟩ := id T6
      refine go_of (s := { s5 with heap := h' }) ei ci di (by decide) ?_
      have J6 := I6.pinned (fp := [it]) (fun b hb => by rw [List.mem_singleton.mp hb]; exact stat I6 n5) fun b hb => by rw [List.mem_singleton.mp hb]; exact ⟨oi, ei, fun v z => by rw [di] at z; cases z⟩
      refine thnF (pg.run _ _ _ H5 xs[i] u _ J6 ru (turn i xs[i] H5 (List.getElem?_eq_getElem hlt) w5)) fun _ s8 ⟨σ8, H8, I8, hw8, q8⟩ => ?_
      refine thnF (pt.run _ s8 σ8 H8 _ I8 q8) fun b s9 ⟨H9, I9, q9⟩ => ?_
      have fin : ∀ {s' : Shared} {H' : Hp}, Inv (X.blk s3 H3 scope ce [it]) ([] ++ pinsAt [it] h') σ8 H' s' → Pv (i + 1) H' → ∃ m, m < n ∧ ∃ i H', i + m = xs.length ∧ Inv (X.blk s3 H3 scope ce [it]) [] (wipe σ (own.map (·.2))) H' s' ∧ s'.heap.IsListIter it a i ∧ H' it = none ∧ Pv i H' := fun {s' H'} I' nx => by
        have pin' := I'.pin (it, oi) (List.mem_append_right _ (List.mem_append_right _ (mem_pinsAt List.mem_cons_self ei)))
        have hl8 : (wipe σ (own.map (·.2))).length = σ8.length := by rw [← hw8, wipe_length]
        refine ⟨n - 1, by omega, i + 1, H', by omega, (I'.unpinned (pins := [])).weak hl8 (fun j v e => ?_), T6.at fun o e => ?_, pin'.2.1, nx⟩
        · rw [← hw8] at e
          exact (wipe_some e).1
        · have e9 : h'.get? it = some o := e
          rw [ei] at e9
          cases e9
          exact pin'.1
      cases b with
      | false =>
        rw [if_neg Bool.false_ne_true] at q9
        exact fin I9 q9
      | true =>
        rw [if_pos rfl] at q9
        refine thnF (pe.run _ s9 σ8 H9 _ I9 q9) fun z s10 ⟨yv, H10, I10, r10, acc, hD10, hz10, nx⟩ => ?_
        exact app_ok (X := X.blk s3 H3 scope ce [it]) I10 hD10 hz10 r10 fun s11 I11 => fin I11 nx
    · have ei : i = xs.length := by omega
      subst ei
      have el := vu5.length
      refine list_end_hot (hotB I5) T5 pl5.isList (by simp; omega) pni fun h' eb => ?_
      have I6 : Inv (X.blk s3 H3 scope ce [it]) [] (wipe σ (own.map (·.2))) H5 { s5 with heap := h' } := I5.turned (t' := s5.toks) (fun b o hb e => eb b o hb e) f0 f1 f3 f4 f5
      have I7 : Inv X pins σ H5 { s5 with heap := h' } := I3.call' (ch := [it]) I6.os I6.base I6.hok I6.bare fun b hb => ⟨(F3 b hb).1.2.2.2.1, (F3 b hb).1.2.1, (F3 b hb).1.2.2.2.2.1, (F3 b hb).1.2.2.2.2.2⟩
      have nC : H5 s3.heap.objs.size = none := by
        have z : H5 ce.locals = none := I6.free
        rw [cL] at z
        exact z
      obtain ⟨m, hn, _⟩ := I6.loc
      have hn : ({ s5 with heap := h' } : Shared).heap.Ns ce.locals m := hn
      rw [cL] at hn
      obtain ⟨c0, c1, c2, c3, c4, c5⟩ := I3.fpOk (b := s3.heap.objs.size) (H' := H5) (Nat.le_refl _) nC
      exact ⟨m, hn, fun h'' sb => ⟨.ref D, H5, I7.turned (t' := s5.toks) (fun b o hb e => (sb.2 b hb).trans e) c0 c1 c3 c4 c5, rfl, done H5 w5⟩⟩
  exact codeAny_compStart_list loop (wpAny_pyIter_listiter T4 loop)⟩
end
end DL

set_option Elab.async false
set_option linter.all false
set_option maxRecDepth 100000
set_option maxHeartbeats 4000000
namespace DL
open PySem PySem.Spec PyProof.Rows L2 L2H HotX
/-! ### a def called within an except suite, with the error that is handled -/
/-- the error's object: of the class at D, nothing else in it, its context None -/
def ErrO (D : Addr) (p : Addr × Obj) : Prop := L2N.Zn (.ref D) none p.2 ∧ ∃ vs, p.2.data = .fields vs
/-- called with the error at hand it gives the text z -/
structure FnW (P : Program) (w : World) (K : PySem.W.Frag) (mg : Str → Option Value) (base : Heap) (k : Nat) (f : Addr) (fd : FuncData) (x : Str) (D : Addr) (z : Str) : Prop where
  run : ∀ (A : Around) (outer : List Env) (s : Shared) (H : Hp) (args : Args) (us : List Value) (Q : VK) (E : XK) (p : Addr × Obj), RoomH k A → Hot1 A p → ErrO D p → PinOk outer H s p → Env0 P w K mg base A outer s H → BindsTo s fd args ([x].zip us) → Vals [.ref p.1] us →
    (∀ H', Same H H' → Q (.str z) H') → codeAny (model P w) A (.call (.ref f) args) (CR (L2N.CX P w) outer P w H s Q E) s
theorem fnW_of {P : Program} {w : World} {K : PySem.W.Frag} {mg : Str → Option Value} {base : Heap} {k : Nat} {f D : Addr} {fd : FuncData} {x qual y : Str} {st : Stmt} {N : List Str} {z : Str} (F : Fun K x qual st f fd) (S : FnScope N [y] (defScope st))
    (hb : ∀ (cdv : Value) (A : Around) (outer : List Env) (s : Shared) (H : Hp) (Q : VK) (E : XK) (p : Addr × Obj), Hot1 A p → ErrO D p → RoomH k (A.deeper (envOfC qual (defScope st) s.heap.objs.size f cdv)) → (∀ H', Same H H' → Q (.str z) H') →
      ∃ t, PSs (cxH (L2N.CX P w) P w K mg base N qual (defScope st) f cdv A outer s H E p) (defBody st) t ∧ t { nx := fun _ H' => Q .non H', rt := Q } (L2.start N [.ref p.1]) H) : FnW P w K mg base (k + 1) f fd y D z := by
  obtain ⟨oc, od, kV, doc, pm, an, cdv, ct, osl, rfl, lk, hcd⟩ := F.ex
  refine ⟨fun A outer s H args us Q E p hr hot ho hpin e0 hbd r hq => ?_⟩
  have KX : K.In s.heap := e0.mod.kin.keeps fun b o e => (e0.bs b o e).1
  have lim : s.heap.NoLimit := e0.mod.nolimit.keeps fun b o e => (e0.bs b o e).1
  have kd : ∀ v ∈ [y].zip us, (defScope st).names.lookup v.1 = some .local ∨ ((defScope st).names.lookup v.1 = some .cell ∧ ((cellsFrom (s.heap.objs.size + 1) (defScope st).names []).lookup v.1).isSome = true) := fun ⟨n, v⟩ hy => by
    rcases S.par n (List.of_mem_zip hy).1 with q | q
    · exact .inl q
    · exact .inr ⟨q, PySem.W.cellsFrom_some _ _ _ (.inl q)⟩
  refine codeAny_call_function hr.depth (KX _ _ lk) rfl S.co S.gen rfl (PySem.W.codeRec_of KX hcd) (hbd _ _ _ _ ?_)
  refine wpAny_newFunctionEnv_cells S.kind kd fun env he s1 xx => ?_
  subst he
  refine ⟨lim.keeps xx.toInCall.keep, codeAny_func ?_⟩
  obtain ⟨t, ht, hqq⟩ := hb cdv A outer s H Q E p hot ho (hr.deeper _) hq
  have I : Inv (cxH (L2N.CX P w) P w K mg base N qual (defScope st) f cdv A outer s H E p) [] (L2.start N [.ref p.1]) H s1 := inv_startH S hpin e0 rfl r xx
  refine wpAny_mono (ht.run [] s1 (L2.start N [.ref p.1]) H _ I hqq) (fun fl s' hs => ?_) fun e s' hs => hs
  have fin : ∀ {σ' : L2.St} {H' : Hp} {v : V} {u : Value}, Inv (cxH (L2N.CX P w) P w K mg base N qual (defScope st) f cdv A outer s H E p) [] σ' H' s' → RelV v u → Q v H' → CE outer P w H s Q u s' := fun {σ' H' v u} J rv q => ⟨v, H', J.os, J.bare, J.base, J.hok, rv, q⟩
  cases fl with
  | ret u =>
    obtain ⟨v, σ', H', J, rv, q⟩ := hs
    exact fin J rv q
  | next =>
    obtain ⟨σ', H', J, q⟩ := hs
    exact fin (v := V.non) (u := Value.none) J rfl q
  | brk => exact (let ⟨_, _, _, q⟩ := hs; q : False).elim
  | cont => exact (let ⟨_, _, _, q⟩ := hs; q : False).elim

/-- isinstance(e, c), e the error at hand -/
theorem call_isP {X : Cx} {D : Addr} {p : Addr × Obj} (C : ExcC X.K D) (ho : ErrO D p) (hp : p ∈ X.pn) : CallR X (.builtin "isinstance") (rIsE X.K D p.1) := by
  intro pins s σ H xs us Q I r h
  obtain ⟨c, cv, b, rfl, hcv, e, q⟩ := h
  obtain ⟨u1, u2, rfl, r1, r2⟩ := vals2 r
  cases r1
  have ec := hcv _ r2
  subst ec
  obtain ⟨hget, _⟩ := I.pin p (List.mem_append_left _ hp)
  obtain ⟨hz, vs, hv⟩ := ho
  have hz := hz.zc
  have J : PySem.W.InstAt s.heap p.1 p.2 D none := by
    obtain ⟨a, oc, od, oda, osl⟩ := p
    obtain ⟨h1, h2⟩ := hz
    dsimp only at h1 h2 hv hget
    subst h1 h2 hv
    exact ⟨hget, rfl, rfl, trivial⟩
  exact PySem.W.kia_one (PySem.W.handS_kitx_exc C.hg C.hk C.hs C.hd C.ha C.hn C.ht C.hm) I.kIn J e (fun z => nomatch z) fun tk => ⟨.bl b, H, I.kept (t' := tk) fun _ _ z => z, rfl, q⟩

/-! ### the word of an error that is of one kind alone -/
abbrev rLenL (K : PySem.W.Frag) : List V → Hp → VK → Prop := fun xs H Q => ∃ p ys, xs = [.ref p] ∧ (SqL K H p ys ∨ SqT K H p ys) ∧ Q (.int ys.length) H
def tWord (K : PySem.W.Frag) (D a C1 C2 C3 C4 C5 : Addr) : TS :=
  tSeq (tAsg (tLst (tCons (tCB (rIsE K D a) (tCons (tVar 0) (tCons (tC (.ref C1)) tNil))) (tCons (tCB (rIsE K D a) (tCons (tVar 0) (tCons (tC (.ref C2)) tNil))) (tCons (tCB (rIsE K D a) (tCons (tVar 0) (tCons (tC (.ref C3)) tNil)))
    (tCons (tCB (rIsE K D a) (tCons (tVar 0) (tCons (tC (.ref C4)) tNil))) (tCons (tCB (rIsE K D a) (tCons (tVar 0) (tCons (tC (.ref C5)) tNil))) tNil)))))) (gName 1))
  (tSeq (tIfS (tTest (tOp rNe (tCB (rLenL K) (tCons (tLcHot K (tVar 1) (gName 2) (tB (tVar 2)) (tVar 2) [2]) tNil)) (tC (.int 1)))) (tRet (tC (.str "many"))) tNext)
  (tRet (tOp (rIxL K) (tLst (tCons (tC (.str "range")) (tCons (tC (.str "form")) (tCons (tC (.str "none")) (tCons (tC (.str "refused")) (tCons (tC (.str "much")) tNil)))))) (tBM K "list" (rIndex K) (tVar 1) (tCons (tC (.bl true)) tNil)))))
theorem same_new {H : Hp} {p : Addr} {o : HO} (h : H p = none) : Same H (upd H p o) := fun b x e => by
  rw [upd_ne (ne_of_none e h)]
  exact e
def words5 : List Str := ["range", "form", "none", "refused", "much"]
theorem word_reads {K : PySem.W.Frag} {D a C1 C2 C3 C4 C5 : Addr} {b1 b2 b3 b4 b5 : Bool} {j : Nat} {z : Str} {Q : VK} {H : Hp} (k1 : PySem.W.kitOne K (.ref D) (.ref C1) = some b1) (k2 : PySem.W.kitOne K (.ref D) (.ref C2) = some b2) (k3 : PySem.W.kitOne K (.ref D) (.ref C3) = some b3)
    (k4 : PySem.W.kitOne K (.ref D) (.ref C4) = some b4) (k5 : PySem.W.kitOne K (.ref D) (.ref C5) = some b5) (one : ([b1, b2, b3, b4, b5].filter id).length = 1) (hj : [b1, b2, b3, b4, b5][j]? = some true) (hm : ∀ m b, m < j → [b1, b2, b3, b4, b5][m]? = some b → b = false) (hz : words5[j]? = some z)
    (hq : ∀ H', Same H H' → Q (.str z) H') {D0 : Ends} (hD : D0.rt = Q) : tWord K D a C1 C2 C3 C4 C5 D0 [some (.ref a), none, none] H := by
  have cls : ∀ C : Addr, ∀ u, RelV (.ref C) u → u = .ref C := fun C u h => h
  refine ⟨_, rfl, .ref C1, .ref C1, b1, rfl, cls C1, k1, _, rfl, .ref C2, .ref C2, b2, rfl, cls C2, k2, _, rfl, .ref C3, .ref C3, b3, rfl, cls C3, k3, _, rfl, .ref C4, .ref C4, b4, rfl, cls C4, k4, _, rfl, .ref C5, .ref C5, b5, rfl, cls C5, k5, by show 5 ≤ sizeLine; decide, fun l hl => ?_⟩
  have hL : upd H l (.lst ([b1, b2, b3, b4, b5].map V.bl)) l = some (.lst ([b1, b2, b3, b4, b5].map V.bl)) := upd_same
  refine ⟨.ref l, rfl, l, [b1, b2, b3, b4, b5].map V.bl, rfl, SqL.of hL, fun d hd => ?_⟩
  have nld : l ≠ d := ne_of_none hL hd
  refine ⟨fun i H' => H' l = some (.lst ([b1, b2, b3, b4, b5].map V.bl)) ∧ H' d = some (.lst ((([b1, b2, b3, b4, b5].take i).filter id).map V.bl)) ∧ Same H H', ⟨by rw [upd_ne nld]; exact hL, upd_same, (same_new hl).trans (same_new hd)⟩, fun i H' h => SqL.of h.1, fun i x H' hx h => ?_, fun H' h => ?_⟩
  · obtain ⟨b, hb, rfl⟩ : ∃ b, [b1, b2, b3, b4, b5][i]? = some b ∧ V.bl b = x := by
      rw [List.getElem?_map] at hx
      cases e : [b1, b2, b3, b4, b5][i]? with
      | none => rw [e] at hx; cases hx
      | some b => rw [e] at hx; cases hx; exact ⟨b, rfl, rfl⟩
    have tk : ([b1, b2, b3, b4, b5].take (i + 1)).filter id = ([b1, b2, b3, b4, b5].take i).filter id ++ (if b then [b] else []) := by
      rw [List.take_add_one, hb, List.filter_append]
      cases b <;> rfl
    refine ⟨rfl, .bl b, rfl, b, rfl, ?_⟩
    cases b with
    | false =>
      refine iteF ⟨h.1, ?_, h.2.2⟩
      rw [tk, if_neg Bool.false_ne_true, List.append_nil]
      exact h.2.1
    | true =>
      refine iteT ⟨.bl true, rfl, _, h.2.1, ?_, ?_, ?_, ?_⟩
      · refine small1000 (Nat.le_trans ?_ (show 5 ≤ 1000 by decide))
        rw [List.length_map]
        exact Nat.le_trans (List.length_filter_le _ _) (by rw [List.length_take]; exact Nat.min_le_right _ _)
      · rw [upd_ne nld]; exact h.1
      · rw [upd_same, tk, List.map_append]
        rfl
      · intro b' o' e
        rw [upd_ne (ne_of_none e ((same_new (o := .lst ([b1, b2, b3, b4, b5].map V.bl)) hl).free hd))]
        exact h.2.2 b' o' e
  · have e5 : [b1, b2, b3, b4, b5].take ([b1, b2, b3, b4, b5].map V.bl).length = [b1, b2, b3, b4, b5] := rfl
    obtain ⟨h1, h2, h3⟩ := h
    rw [e5] at h2
    refine ⟨d, _, rfl, .inl (SqL.of h2), rfl, _, rfl, ?_⟩
    rw [List.length_map, one]
    refine iteF ?_
    dsimp only [tNext, tRet]
    refine ⟨by show 5 ≤ sizeLine; decide, fun m hm' => ?_⟩
    have s4 : Same H (upd H' m (.lst (words5.map V.str))) := h3.trans (same_new hm')
    have nlm : l ≠ m := ne_of_none h1 hm'
    have L' : SqL K (upd H' m (.lst (words5.map V.str))) l ([b1, b2, b3, b4, b5].map V.bl) := SqL.of (by rw [upd_ne nlm]; exact h1)
    refine ⟨.ref l, rfl, .inl ⟨rfl, _, L'⟩, l, _, .bl true, j, .bl true, rfl, rfl, L', rfl, ?_, ?_, rfl, fun i x hi hx => ?_, m, words5.map V.str, (j : Int), .str z, rfl, rfl, SqL.of upd_same, atI_nat ?_, ?_⟩
    · rfl
    · rw [List.getElem?_map, hj]; rfl
    · rw [List.getElem?_map] at hx
      cases e : [b1, b2, b3, b4, b5][i]? with
      | none => rw [e] at hx; cases hx
      | some b =>
        rw [e] at hx
        cases hx
        rw [hm i b hi e]
        rfl
    · rw [List.getElem?_map, hz]; rfl
    · show D0.rt _ _
      rw [hD]
      exact hq _ s4

/-! ### try: .. except K as e: return word(e) -/
section
variable {X : Cx} {a : Addr} {oe : Obj} {cls : Value} {d : Option Addr} {pn : List (Addr × Obj)} {wd : Addr → Option Str} {i k : Nat} {f : Addr} {fd : FuncData} {x n y : Str} {q p1 pos : Pos}
/-- what the suite asks -/
def tsWord (wd : Addr → Option Str) (i : Nat) (a : Addr) (cls : Value) (d : Option Addr) : TE := fun σ H Q => ∃ (D : Addr) (z : Str), cls = .ref D ∧ d = none ∧ wd D = some z ∧ σ[i]? = some (some (.ref a)) ∧ ∀ H', Same H H' → Q (.str z) H'
theorem pe_word (hz : L2N.Zn cls d oe) (hf : ∃ vs, oe.data = .fields vs) (hW : ∀ D z, wd D = some z → FnW X.prog X.w X.K X.mg X.base k f fd y D z) (hr : Room k X.A) (hg : Gl X x) (hm : X.mg x = some (.ref f)) (hk : PySem.W.keepIn X.K (.ref f) = true) (hb : Binds X.K fd [y] [])
    (hi : X.N[i]? = some n) (hv : Vis X.env.scope n) (hd1 : (n == ("__debug__" : Str)) = false := by decide) (hd2 : (n == ("__classdict__" : Str)) = false := by decide) (hdb : (x == ("__debug__" : Str)) = false := by decide)
    (he : starEach [.Name n p1] X.env = (false, eval (.Name n p1) X.env) :: starEach [] X.env := by rfl) (hpl : (backTo pos (starEach [] X.env)).any (·.1) = false := by rfl) :
    PE (X.suite a ((a, oe) :: pn)) (.Call (.Name x q) [.Name n p1] [] pos) (tsWord wd i a cls d) := ⟨fun pins s σ H Q I h => by
  obtain ⟨D, z, rfl, rfl, hwd, hs, hq⟩ := h
  have F := hW D z hwd
  have hV : PE (X.suite a ((a, oe) :: pn)) (.Name n p1) (tVar i) := pe_var hi hv hd1 hd2
  have hA : PA (X.suite a ((a, oe) :: pn)) [.Name n p1] (tCons (tVar i) tNil) := pa_cons hV pa_nil he
  refine wpAny_Call_Name_kw (ld_glob I hg hm ?_ hdb)
  refine PySem.W.callWith_K (h₀ := X.base) I.ok.mod.kin hk (thn (hA.run pos pins s σ H (fun vs G => vs = [.ref a] ∧ H = G) I ⟨_, hs, rfl, rfl⟩) fun us s1 ⟨vs, G, J, r, ev, eG⟩ => ?_) he hpl
  subst ev
  subst eG
  refine ⟨J.kIn, ?_⟩
  obtain ⟨u, rfl, ru⟩ := vals1 r
  have b := hb s1 [u] J.kIn rfl
  have hot : Hot1 (X.suite a ((a, oe) :: pn)).A (a, oe) := by
    obtain ⟨vs, hvs⟩ := hf
    exact ⟨rfl, vs, hvs, hz.2.2 vs hvs⟩
  have P1 := J.pin (a, oe) (List.mem_append_left _ List.mem_cons_self)
  have hpin : PinOk X.stack H s1 (a, oe) := ⟨P1.1, P1.2.1, fun hm => (List.mem_cons.mp (J.stkSub a hm)).elim P1.2.2.1 P1.2.2.2.1, P1.2.2.2.2⟩
  refine wpAny_call (codeAny_mono (F.run _ X.stack s1 H ⟨[u], []⟩ [u] Q (fun _ _ _ => False) (a, oe) (roomH_of (A := X.A) hr |> fun z => ⟨z.dp, z.un⟩) hot ⟨hz, hf⟩ hpin J.env0 b r hq) fun rr s' hres => ?_)
  cases rr with
  | error e =>
    obtain ⟨_, _, _, _, _, _, _, _, _, _, _, _, zz⟩ := hres
    exact zz.elim
  | ok fl =>
    cases fl with
    | ret u => exact J.after hres
    | next => exact False.elim hres
    | brk => exact False.elim hres
    | cont => exact False.elim hres⟩
def sTryW (wd : Addr → Option Str) (i : Nat) (tb : ST) : ST := fun e ρ => tb { e with xc := fun c ρ' => i < ρ'.length ∧ some! (wd c) fun z => e.rt (.d (.str z)) ρ' } ρ
theorem ds_tryW {p : Amb} {W : WX} {xk : Str} {CK : Addr} {body : List Stmt} {tb : ST} {np rp pos' tpos : Pos} (hs : X.stack = X.env :: X.outer) (hf : X.env.frame = some X.env.locals) (hN : X.N.Nodup) (hi : X.N[i]? = some n) (hln : X.env.kindOf n = some .local) (hc : Names X xk (.ref CK)) (tk : L2N.Takes X W)
    (hb : ∀ (W : WX) (pn : List (Addr × Obj)) (xe : Value → Shared → Prop), L2N.Takes (X.tr pn xe) W → PassesOwn (model X.prog X.w) X.A X.env xe → DSs (X.tr pn xe) p W body tb)
    (hex : ∀ D z, wd D = some z → PySem.W.exmOne X.K (.ref D) (.ref CK) = some true) (hW : ∀ D z, wd D = some z → FnW X.prog X.w X.K X.mg X.base k f fd y D z) (hr : Room k X.A) (hg : Gl X x) (hm : X.mg x = some (.ref f)) (hk : PySem.W.keepIn X.K (.ref f) = true) (hbd : Binds X.K fd [y] [])
    (hd1 : (n == ("__debug__" : Str)) = false := by decide) (hd2 : (n == ("__classdict__" : Str)) = false := by decide) (hdb : (x == ("__debug__" : Str)) = false := by decide)
    (he : starEach [.Name n p1] X.env = (false, eval (.Name n p1) X.env) :: starEach [] X.env := by rfl) (hpl : (backTo pos (starEach [] X.env)).any (·.1) = false := by rfl) :
    DS X p W (.Try body [.ExceptHandler (some (.Name xk np)) (some n) [.Return (some (.Call (.Name x q) [.Name n p1] [] pos)) rp] pos'] [] [] tpos) (sTryW wd i tb) :=
  ⟨PS.imp (L2N.ps_try_as (tb := fun W => liftS X.K p W tb) (ts := fun a cls d => tRet (tsWord wd i a cls d)) hs hf hN hi hln hc tk (fun W pn xe t po => (hb W pn xe t po).pss)
    (fun a oe cls d pn hz hfl => pss_one (ps_ret (pe_word (k := k) hz hfl hW hr hg hm hk hbd hi (.inl hln) hd1 hd2 hdb he hpl)))) fun D σ H ⟨M, ρ, e, S, h, l⟩ => by
    refine ⟨M, ρ, _, S, h, ⟨l.nx, l.bk, l.ct, l.rt, fun c M' σ' H' ρ' P' h' => ?_⟩⟩
    obtain ⟨hl, h'⟩ := h'
    obtain ⟨z, ez, h2⟩ := some!_ok h'
    refine ⟨true, hex c z ez, fun _ a ha => ⟨c, z, rfl, rfl, ez, List.getElem?_set_self (by rw [← P'.sim.len]; exact hl), fun H'' sm => ?_⟩, fun z => nomatch z⟩
    have dom : ∀ b, H' b ≠ none → H'' b ≠ none := fun b hb => by
      cases q : H' b with
      | none => exact absurd q hb
      | some o => rw [sm b o q]; exact fun z => nomatch z
    have P2 := P'.sim.post (M1 := M') ⟨fun b o e _ _ => ⟨.inl (sm b o e), fun _ => sm b o e⟩, fun b z => .inl z, fun b z _ => z, dom, fun b _ e => sm b _ e, fun b ⟨ps, e, t⟩ => ⟨ps, sm b _ e, t⟩⟩ fun b z => dom b (P'.sim.mok b z)
    exact l.rt (.str z) M' σ' H'' ρ' _ (P'.trans S P2) (RetOk.dd (.str z)) h2⟩
end
end DL

set_option Elab.async false
set_option linter.all false
set_option maxRecDepth 100000
set_option maxHeartbeats 4000000
namespace DL
open PySem PySem.Spec PyProof.Rows L2
/-! ### a def that may be called by its name -/
def CallD (P : Program) (w : World) (K : PySem.W.Frag) (mg : Str → Option Value) (base : Heap) (T : Addr → Prop) (k : Nat) (x : Str) (ps : List Str) (sp : PSp) : Prop :=
  ∃ (f : Addr) (fd : FuncData), FnOk P w K mg base (L2N.CX P w) k f fd ps (liftSp K T sp) ∧ mg x = some (.ref f) ∧ PySem.W.keepIn K (.ref f) = true ∧ Binds K fd ps []
def CallIO (P : Program) (w : World) (K : PySem.W.Frag) (mg : Str → Option Value) (base : Heap) (T : Addr → Prop) (k : Nat) (x : Str) (ps : List Str) (sp : PSpIO) : Prop :=
  ∃ (f : Addr) (fd : FuncData), FnOk P w K mg base (L2N.CX P w) k f fd ps (liftIO K T sp) ∧ mg x = some (.ref f) ∧ PySem.W.keepIn K (.ref f) = true ∧ Binds K fd ps []
section
variable {P : Program} {w : World} {K : PySem.W.Frag} {mg : Str → Option Value} {base : Heap} {T : Addr → Prop} {k j : Nat} {x : Str} {ps : List Str}
theorem CallD.mono {sp : PSp} (h : CallD P w K mg base T k x ps sp) (e : k ≤ j) : CallD P w K mg base T j x ps sp := by
  obtain ⟨f, fd, a, b, c, d⟩ := h
  exact ⟨f, fd, a.mono e, b, c, d⟩
theorem CallIO.mono {sp : PSpIO} (h : CallIO P w K mg base T k x ps sp) (e : k ≤ j) : CallIO P w K mg base T j x ps sp := by
  obtain ⟨f, fd, a, b, c, d⟩ := h
  exact ⟨f, fd, a.mono e, b, c, d⟩
/-- nothing is asked of it -/
theorem CallD.bot {f : Addr} {fd : FuncData} (hm : mg x = some (.ref f)) (hk : PySem.W.keepIn K (.ref f) = true) (hb : Binds K fd ps []) : CallD P w K mg base T k x ps (fun _ _ _ => False) :=
  ⟨f, fd, ⟨fun vs H Q E ⟨_, M, ds, q, x, _, _, z, _⟩ => z.elim, fun A outer s H args us vs Q E hr e0 b r ⟨_, M, ds, q, x, _, _, z, _⟩ => z.elim⟩, hm, hk, hb⟩
end
section
variable {X : Cx} {p : Amb} {W : WX} {k : Nat} {ps : List Str} {x : Str} {pp pos : Pos} {e a b : Expr} {es : List Expr} {t : AT} {ta tb : ET}
theorem de_c {sp : PSp} (F : CallD X.prog X.w X.K X.mg X.base p.tb k x ps sp) (tk : L2N.Takes X W) (hr : Room k X.A) (ha : DA X p W (e :: es) t) (hg : Gl X x := by rfl) (hdb : (x == ("__debug__" : Str)) = false := by decide) (he : starEach (e :: es) X.env = (false, eval e X.env) :: starEach es X.env := by rfl)
    (hpl : (backTo pos (starEach es X.env)).any (·.1) = false := by rfl) : DE X p W (.Call (.Name x pp) (e :: es) [] pos) (tCall' sp t) := by
  obtain ⟨f, fd, F, hm, hk, hb⟩ := F
  exact de_call F tk hr hg hm hk hb ha hdb he hpl
theorem de_cIO {sp : PSpIO} (F : CallIO X.prog X.w X.K X.mg X.base p.tb k x ps sp) (tk : L2N.Takes X W) (hr : Room k X.A) (ha : DA X p W (e :: es) t) (hg : Gl X x := by rfl) (hdb : (x == ("__debug__" : Str)) = false := by decide) (he : starEach (e :: es) X.env = (false, eval e X.env) :: starEach es X.env := by rfl)
    (hpl : (backTo pos (starEach es X.env)).any (·.1) = false := by rfl) : DE X p W (.Call (.Name x pp) (e :: es) [] pos) (tCallIO sp t) := by
  obtain ⟨f, fd, F, hm, hk, hb⟩ := F
  exact de_callIO F tk hr hg hm hk hb ha hdb he hpl
/-! ### divmod -/
def fDivmod : List D → (RV → Prop) → Prop := fun ds q => match ds with
  | [.int i, .int j] => CDivP i j ∧ q (.d (.tup [.int (i / j), .int (i % j)]))
  | _ => False
theorem divmod_ok {K : PySem.W.Frag} : RCD K (fun xs H Q => ∃ i j, xs = [.int i, .int j] ∧ CDivP i j ∧ ∀ p, H p = none → Q (.ref p) (upd H p (.tup [.int (i / j), .int (i % j)]))) fDivmod := by
  intro M H vs ds Q q mok r h k
  unfold fDivmod at h
  split at h
  next i j =>
    obtain ⟨v, u, rfl, r1, r2⟩ := r.two
    rw [r1.int, r2.int]
    exact ⟨i, j, rfl, h.1, fun p hp => k _ M _ _ (ResOk.tup mok hp (.cons (.int _) (.cons (.int _) .nil))) h.2⟩
  next => exact h.elim
theorem de_divmod {pos' : Pos} (hm : X.mg "divmod" = none) (ha : DE X p W a ta) (hb : DE X p W b tb) (hg : Gl X "divmod" := by rfl) (he : starEach [a, b] X.env = (false, eval a X.env) :: starEach [b] X.env := by rfl) (he2 : starEach [b] X.env = (false, eval b X.env) :: starEach [] X.env := by rfl) (hpl : (backTo pos (starEach [b] X.env)).any (·.1) = false := by rfl) :
    DE X p W (.Call (.Name "divmod" pos') [a, b] [] pos) (tC' fDivmod (aCons ta (aCons tb aNil))) := de_callB call_divmodW divmod_ok hg hm (by decide +kernel) (da_cons ha (da_cons hb da_nil he2) he) (by decide) (by decide) he hpl
end
/-- the word of an error, in the suite of a try -/
structure WordOk (P : Program) (w : World) (K : PySem.W.Frag) (mg : Str → Option Value) (base : Heap) (k : Nat) (x : Str) (CK f : Addr) (fd : FuncData) (wd : Addr → Option Str) : Prop where
  ex : ∀ D z, wd D = some z → PySem.W.exmOne K (.ref D) (.ref CK) = some true
  fn : ∀ D z, wd D = some z → FnW P w K mg base k f fd "e" D z
  mg : mg x = some (.ref f)
  kp : PySem.W.keepIn K (.ref f) = true
  bd : Binds K fd ["e"] []
section
variable {X : Cx} {p : Amb} {W : WX}
theorem de_lc' {elt tg iter : Expr} {ifs : List Expr} {scope : Scope} {own : List (Str × Nat)} {pos : Pos} {ti : IT} {g : GT} {tt : BT} {te : ET} {sl vs : List Nat} (hc : X.calm = true) (hN : X.N.Nodup) (hi : DI X p W tg iter ti) (ok : BlkOk X.N X.env.scope scope own)
    (hg : ∀ (s : Shared) (H : Hp) (C : Addr) (cl : List (Str × Addr)) (fp : List Addr), DG (X.blk s H scope (compEnvC scope cl C X.env) fp) p tg sl g) (ht : ∀ (s : Shared) (H : Hp) (C : Addr) (cl : List (Str × Addr)) (fp : List Addr), DTs (X.blk s H scope (compEnvC scope cl C X.env) fp) p wNo ifs tt)
    (he : ∀ (s : Shared) (H : Hp) (C : Addr) (cl : List (Str × Addr)) (fp : List Addr), DE (X.blk s H scope (compEnvC scope cl C X.env) fp) p wNo elt te) (hsl : (sl.all fun j => vs.contains j) = true) (hv : own.map (·.2) = vs := by rfl) (hs : ∀ x, foldedSetIterable iter X.env x = pure x := by intro _; rfl) :
    DE X p W (.ListComp elt [⟨tg, iter, ifs, 0⟩] scope pos) (tLc' ti g tt te vs) := by
  subst hv
  exact de_lc hc hN hi ok hg ht he hsl hs

theorem ds_setLc' {i : Nat} {y : Str} {py : Pos} {elt tg iter : Expr} {ifs : List Expr} {scope : Scope} {own : List (Str × Nat)} {pos spos : Pos} {ti : IT} {g : GT} {tt : BT} {te : ET} {sl vs : List Nat} (hc : X.calm = true) (hN : X.N.Nodup) (hy : X.N[i]? = some y) (hyl : X.env.scope.names.lookup y = some .local)
    (hsw : swapsWith (.ListComp elt [⟨tg, iter, ifs, 0⟩] scope pos) (some (.Name y py)) spos.line X.env = pure true) (hi : DI X p W tg iter ti) (ok : BlkOk X.N X.env.scope scope own)
    (hg : ∀ (s : Shared) (H : Hp) (C : Addr) (cl : List (Str × Addr)) (fp : List Addr), DG (X.blk s H scope (compEnvC scope cl C X.env) fp) p tg sl g) (ht : ∀ (s : Shared) (H : Hp) (C : Addr) (cl : List (Str × Addr)) (fp : List Addr), DTs (X.blk s H scope (compEnvC scope cl C X.env) fp) p wNo ifs tt)
    (he : ∀ (s : Shared) (H : Hp) (C : Addr) (cl : List (Str × Addr)) (fp : List Addr), DE (X.blk s H scope (compEnvC scope cl C X.env) fp) p wNo elt te) (hsl : (sl.all fun j => vs.contains j) = true) (hv : own.map (·.2) = vs := by rfl) (hs : ∀ x, foldedSetIterable iter X.env x = pure x := by intro _; rfl) :
    DS X p W (.Assign [.Name y py] (.ListComp elt [⟨tg, iter, ifs, 0⟩] scope pos) spos) (sSet i (tLc' ti g tt te vs)) := by
  subst hv
  exact ds_setLc hc hN hy hyl hsw hi ok hg ht he hsl hs
end
/-- the law's head: the script is a list that is read alone -/
theorem script_lift {K : PySem.W.Frag} {T : Addr → Prop} {sp : PSp} {H : Hp} {a : Addr} {ns : List Int} (h : sp [.fz (ns.map .int)] (fun r => r = .d (.bl true)) fun _ => False) (hT : ∀ a, T a → GxR.TabG H a) (hS : SqL K H a (ns.map V.int)) :
    liftSp K T sp [.ref a] H (fun v _ => v = .bl true) fun _ _ _ => False := by
  refine ⟨hT, fun _ => False, [.fz (ns.map .int)], _, _, fun a z => z.elim, .cons (.fz ?_ (RepL.of_ints ns)) .nil, h, fun v M' H' r ok e => ?_, fun c M' H' _ _ z => z⟩
  · rcases hS with hS | hS
    · exact .inl ⟨hS, fun z => z⟩
    · exact .inr hS
  · subst e
    have R : Rep K M' H' v (.bl true) := ok.res
    cases R
    rfl
section
variable {X : Cx}
open L2H HotX
theorem pe_lcHot' {elt tg l : Expr} {ifs : List Expr} {scope : Scope} {own : List (Str × Nat)} {pos : Pos} {tl : TE} {g : TG} {tt : TT} {te : TE} {vs : List Nat} (hot : HotC X) (hN : X.N.Nodup) (hl : PE X l tl) (ok : BlkOk X.N X.env.scope scope own)
    (hg : ∀ (s : Shared) (H : Hp) (C : Addr) (cl : List (Str × Addr)) (fp : List Addr), PG (X.blk s H scope (compEnvC scope cl C X.env) fp) tg g) (ht : ∀ (s : Shared) (H : Hp) (C : Addr) (cl : List (Str × Addr)) (fp : List Addr), PTs (X.blk s H scope (compEnvC scope cl C X.env) fp) ifs tt)
    (he : ∀ (s : Shared) (H : Hp) (C : Addr) (cl : List (Str × Addr)) (fp : List Addr), PE (X.blk s H scope (compEnvC scope cl C X.env) fp) elt te) (hv : own.map (·.2) = vs := by rfl) (hs : ∀ x, foldedSetIterable l X.env x = pure x := by intro _; rfl) :
    PE X (.ListComp elt [⟨tg, l, ifs, 0⟩] scope pos) (tLcHot X.K tl g tt te vs) := by
  subst hv
  exact pe_lcHot hot hN hl ok hg ht he hs
end
section
variable {K : PySem.W.Frag} {D C : Addr} {b : Bool}
theorem cls_of (ic : PySem.W.isClsIn K C = true) (tC : PySem.W.typeIn K (.ref C) = some (.type "type")) (s : PySem.W.subIn K (.ref D) (.ref C) = some b) : PySem.W.kitCls K (.ref D) (.ref C) = some b := by
  have ic : (PySem.W.clsIn K C).isSome = true := ic
  show (if ((PySem.W.clsIn K C).isSome && PySem.W.typeIn K (.ref C) == some (.type "type")) = true then PySem.W.subIn K (.ref D) (.ref C) else none) = _
  rw [ic, tC, s]
  rfl
theorem kit_own (ic : PySem.W.isClsIn K C = true) (tC : PySem.W.typeIn K (.ref C) = some (.type "type")) (s : PySem.W.subIn K (.ref D) (.ref C) = some b) (sD : PySem.W.subIn K (.ref D) (.ref D) = some true) : PySem.W.kitOne K (.ref D) (.ref C) = some b := by
  unfold PySem.W.kitOne
  by_cases e : ((.ref D : Value) == .ref C) = true
  · rw [if_pos e]
    have e2 : D = C := by
      have := beq_iff_eq.mp e
      cases this
      rfl
    subst e2
    exact sD.symm.trans s
  · rw [if_neg e]
    exact cls_of ic tC s
theorem exm_own (ic : PySem.W.isClsIn K C = true) (bC : PySem.W.subIn K (.ref C) (.type "BaseException") = some true) (tC : PySem.W.typeIn K (.ref C) = some (.type "type")) (s : PySem.W.subIn K (.ref D) (.ref C) = some b) : PySem.W.exmOne K (.ref D) (.ref C) = some b := by
  unfold PySem.W.exmOne
  rw [bC]
  exact cls_of ic tC s
end
end DL

set_option Elab.async false
set_option linter.all false
set_option maxRecDepth 100000
set_option maxHeartbeats 4000000
namespace DL
open PySem PySem.Spec PyProof.Rows L2
/-! ### the readings, step by step -/
/-- what follows, to be left alone while the step ahead of it is done -/
inductive Tag {α : Type} (a : α) : Type
  | mk
def sm {α : Type} (o : Option α) (q : α → Prop) (_ : Tag q) : Prop := some! o q
def fm1 (f : D → (RV → Prop) → Prop) (o : Option D) (q : RV → Prop) (_ : Tag (f, q)) : Prop := f1 f o q
def fm2 (f : D → D → (RV → Prop) → Prop) (o p : Option D) (q : RV → Prop) (_ : Tag (f, q)) : Prop := f2 f o p q
def br (b : Bool) (p q : Prop) (_ : Tag (p, q)) : Prop := if b = true then p else q
theorem sm_ {α : Type} {o : Option α} {q : α → Prop} : some! o q = sm o q .mk := rfl
theorem fm1_ {f : D → (RV → Prop) → Prop} {o : Option D} {q : RV → Prop} : f1 f o q = fm1 f o q .mk := rfl
theorem fm2_ {f : D → D → (RV → Prop) → Prop} {o p : Option D} {q : RV → Prop} : f2 f o p q = fm2 f o p q .mk := rfl
theorem br_ {b : Bool} {p q : Prop} : (if b = true then p else q) = br b p q .mk := rfl
theorem sm_some {α : Type} {a : α} {q : α → Prop} {t} : sm (some a) q t = q a := rfl
theorem fm1_some {f : D → (RV → Prop) → Prop} {a : D} {q : RV → Prop} {t} : fm1 f (some a) q t = f a q := rfl
theorem fm2_some {f : D → D → (RV → Prop) → Prop} {a b : D} {q : RV → Prop} {t} : fm2 f (some a) (some b) q t = f a b q := rfl
theorem br_true {p q : Prop} {t} : br true p q t = p := rfl
theorem br_false {p q : Prop} {t} : br false p q t = q := rfl
theorem br_not {b : Bool} {p q : Prop} {t} : br (!b) p q t = br b q p .mk := by cases b <;> rfl
theorem br_dec {c : Prop} [Decidable c] {p q : Prop} {t} : br (decide c) p q t = if c then p else q := by
  unfold br
  by_cases h : c
  · rw [if_pos h, if_pos (decide_eq_true h)]
  · rw [if_neg h, if_neg (by rw [decide_eq_false h]; decide)]
theorem br_any {b : Bool} {p q : Prop} {t} : br b p q t = if b = true then p else q := rfl
section
variable {ρ : Ev} {q : EK} {x : XQ} {qb : Bool → Ev → Prop} {qa : List RV → Ev → Prop} {e : SE}
theorem sNext_ : sNext e ρ = e.nx ρ := rfl
theorem sSeq_ {t u : ST} : sSeq t u e ρ = t { e with nx := u e } ρ := rfl
theorem sBreak_ : sBreak e ρ = e.bk ρ := rfl
theorem sCont_ : sCont e ρ = e.ct ρ := rfl
theorem sExpr_ {t : ET} : sExpr t e ρ = t ρ (fun _ ρ1 => e.nx ρ1) e.xc := rfl
theorem sRet_ {t : ET} : sRet t e ρ = t ρ (fun r ρ1 => some! (retR ρ1 r) fun z => e.rt z ρ1) e.xc := rfl
theorem sRetN_ : sRetN e ρ = e.rt (.d .non) ρ := rfl
theorem sIf_ {c : BT} {t u : ST} : sIf c t u e ρ = c ρ (fun b ρ1 => if b = true then t e ρ1 else u e ρ1) e.xc := rfl
theorem sSet_ {i : Nat} {t : ET} : sSet i t e ρ = t ρ (fun r ρ1 => some! (store i ρ1 r) e.nx) e.xc := rfl
theorem sAug_ {f : D → D → (RV → Prop) → Prop} {i : Nat} {t : ET} : sAug f i t e ρ = some! (slR i ρ[i]?) fun s => t ρ (fun r ρ1 => f2 f (rd ρ1 s) (rd ρ1 r) fun z => some! (store i ρ1 z) e.nx) e.xc := rfl
theorem sPar_ {i j : Nat} {ta tb : ET} : sPar i j ta tb e ρ = ta ρ (fun r ρ1 => tb ρ1 (fun s ρ2 => some! (ripe ρ2 s) fun z => some! (store i z.2 r) fun ρ3 => some! (store j ρ3 z.1) e.nx) e.xc) e.xc := rfl
theorem sAsg_ {t : ET} {g : GT} : sAsg t g e ρ = t ρ (fun r ρ1 => some! (settle ρ1 r) fun z => g z.1 z.2 e.nx) e.xc := rfl
theorem sRaise_ {C : Addr} : sRaise C e ρ = e.xc C ρ := rfl
theorem sTryW_ {wd : Addr → Option Str} {i : Nat} {tb : ST} : sTryW wd i tb e ρ = tb { e with xc := fun c ρ' => i < ρ'.length ∧ some! (wd c) fun z => e.rt (.d (.str z)) ρ' } ρ := rfl
theorem tK_ {v : D} : tK v ρ q x = q (.d v) ρ := rfl
theorem tV_ {i : Nat} : tV i ρ q x = some! (slR i ρ[i]?) fun r => q r ρ := rfl
theorem t2_ {f : D → D → (RV → Prop) → Prop} {ta tb : ET} : t2 f ta tb ρ q x = ta ρ (fun r ρ1 => tb ρ1 (fun s ρ2 => f2 f (rd ρ2 r) (rd ρ2 s) fun z => q z ρ2) x) x := rfl
theorem t1_ {f : D → (RV → Prop) → Prop} {ta : ET} : t1 f ta ρ q x = ta ρ (fun r ρ1 => f1 f (rd ρ1 r) fun z => q z ρ1) x := rfl
theorem tT_ {t : ET} : tT t ρ qb x = t ρ (fun r ρ1 => some! (blR r) fun b => qb b ρ1) x := rfl
theorem tTr_ {t : ET} : tTr t ρ qb x = t ρ (fun r ρ1 => some! (rd ρ1 r) fun d => truD d fun b => qb b ρ1) x := by
  unfold tTr
  congr 1
  funext r ρ1
  cases rd ρ1 r <;> rfl
theorem tCh_ {f g : D → D → (RV → Prop) → Prop} {ta tb tc : ET} : tCh f g ta tb tc ρ q x = ta ρ (fun r ρ1 => tb ρ1 (fun s ρ2 => f2 f (rd ρ2 r) (rd ρ2 s) fun z => some! (blR z) fun k =>
  if k = true then tc ρ2 (fun u ρ3 => f2 g (rd ρ3 s) (rd ρ3 u) fun z2 => q z2 ρ3) x else q (.d (.bl false)) ρ2) x) x := rfl
theorem bAnd_ {ta tb : BT} : bAnd ta tb ρ qb x = ta ρ (fun k ρ1 => if k = true then tb ρ1 qb x else qb false ρ1) x := rfl
theorem bOr_ {ta tb : BT} : bOr ta tb ρ qb x = ta ρ (fun k ρ1 => if k = true then qb true ρ1 else tb ρ1 qb x) x := rfl
theorem bNot_ {ta : BT} : bNot ta ρ qb x = ta ρ (fun k ρ1 => qb (!k) ρ1) x := rfl
theorem bYes_ : bYes ρ qb x = qb true ρ := rfl
theorem tAnd_ {ta tb : ET} : tAnd' ta tb ρ q x = ta ρ (fun r ρ1 => some! (blR r) fun k => if k = true then tb ρ1 q x else q (.d (.bl false)) ρ1) x := rfl
theorem tOr_ {ta tb : ET} : tOr' ta tb ρ q x = ta ρ (fun r ρ1 => some! (blR r) fun k => if k = true then q (.d (.bl true)) ρ1 else tb ρ1 q x) x := rfl
theorem tNot_ {ta : ET} : tNot' ta ρ q x = ta ρ (fun r ρ1 => some! (blR r) fun k => q (.d (.bl (!k))) ρ1) x := rfl
theorem tIf_ {tc : BT} {ta tb : ET} : tIf' tc ta tb ρ q x = tc ρ (fun k ρ1 => if k = true then ta ρ1 q x else tb ρ1 q x) x := rfl
theorem aNil_ : aNil ρ qa x = qa [] ρ := rfl
theorem aCons_ {ta : ET} {tr : AT} : aCons ta tr ρ qa x = ta ρ (fun r ρ1 => tr ρ1 (fun rs ρ2 => qa (cool r :: rs) ρ2) x) x := rfl
theorem tC_ {f : List D → (RV → Prop) → Prop} {ta : AT} : tC' f ta ρ q x = ta ρ (fun rs ρ1 => some! (rdL ρ1 rs) fun ds => f ds fun z => q z ρ1) x := rfl
theorem tTup_ {ta : AT} : tTup' ta ρ q x = ta ρ (fun rs ρ1 => some! (settleL ρ1 rs) fun z => z.1.length ≤ 1000 ∧ q (.d (.tup z.1)) z.2) x := rfl
theorem tLst_ {ta : AT} : tLst' ta ρ q x = ta ρ (fun rs ρ1 => some! (settleL ρ1 rs) fun z => z.1.length ≤ 1000 ∧ q (.n (.lst z.1)) z.2) x := rfl
theorem tCall_ {sp : PSp} {ta : AT} : tCall' sp ta ρ q x = ta ρ (fun rs ρ1 => some! (settleL ρ1 rs) fun z => sp z.1 (fun r => q r z.2) (fun c => x c z.2)) x := rfl
/-- the first of the arguments: the slot's own thing -/
def ioR : List RV → Option (Nat × List RV)
  | .o i :: rs => some (i, rs)
  | _ => none
theorem ioR_ {i : Nat} {rs : List RV} : ioR (.o i :: rs) = some (i, rs) := rfl
theorem tCallIO_ {sp : PSpIO} {ta : AT} : tCallIO sp ta ρ q x = ta ρ (fun rs ρ1 => some! (ioR rs) fun u => some! (settleL ρ1 u.2) fun z => some! (ownS z.2[u.1]?) fun d => sp d z.1 (fun r y => q r (put u.1 y z.2)) (fun c y => x c (put u.1 y z.2))) x := by
  unfold tCallIO
  congr 1
  funext rs ρ1
  match rs with
  | [] => rfl
  | .d _ :: _ => rfl
  | .n _ :: _ => rfl
  | .o i :: rs' => rfl
theorem tAppend_ {to : ET} {ta : AT} : tAppend to ta ρ q x = to ρ (fun r ρ1 => some! (ownL ρ1 r) fun _ => ta ρ1 (fun rs ρ2 => some! (settleL ρ2 rs) fun z => some! (match z.1 with | [y] => some y | _ => none) fun y => some! (ownL z.2 r) fun a => a.2.length < sizeLine ∧ q (.d .non) (put a.1 (.lst (a.2 ++ [y])) z.2)) x) x := by
  unfold tAppend
  congr 1
  funext r ρ1
  congr 1
  funext _
  congr 1
  funext rs ρ2
  congr 1
  funext z
  obtain ⟨z1, z2⟩ := z
  match z1 with
  | [] => rfl
  | [y] => rfl
  | _ :: _ :: _ => rfl
theorem tPop_ {to : ET} : tPop to ρ q x = to ρ (fun r ρ1 => some! (ownL ρ1 r) fun a => some! a.2[a.2.length - 1]? fun y => q (.d y) (put a.1 (.lst a.2.dropLast) ρ1)) x := rfl
theorem oNone_ {qo : Option Int → Ev → Prop} : oNone ρ qo x = qo none ρ := rfl
theorem oSome_ {t : ET} {qo : Option Int → Ev → Prop} : oSome t ρ qo x = t ρ (fun r ρ1 => some! (intR ρ1 r) fun i => qo (some i) ρ1) x := rfl
theorem tSl_ {te : ET} {tl th : OT} : tSl' te tl th ρ q x = te ρ (fun r ρ1 => tl ρ1 (fun lo ρ2 => th ρ2 (fun hi ρ3 => f1 (fun d k => fSl d lo hi k) (rd ρ3 r) fun z => q z ρ3) x) x) x := rfl
theorem iSeqD_ {te : ET} {qi : List D → Ev → Prop} : iSeqD te ρ qi x = te ρ (fun r ρ1 => some! (settle ρ1 r) fun z => some! (seqS z.1) fun ds => qi ds z.2) x := rfl
def intsR : List RV → Option (List Int)
  | [] => some []
  | .d (.int i) :: rs => (intsR rs).map (i :: ·)
  | _ => none
theorem iR1_ {ta : AT} {qi : List D → Ev → Prop} : iR1 ta ρ qi x = ta ρ (fun rs ρ1 => match rs with
  | [.d (.int j)] => -(2 ^ 62) ≤ j ∧ j < 2 ^ 62 ∧ qi (rngD 0 j.toNat) ρ1
  | _ => False) x := rfl
theorem iR2_ {ta : AT} {qi : List D → Ev → Prop} : iR2 ta ρ qi x = ta ρ (fun rs ρ1 => match rs with
  | [.d (.int i), .d (.int j)] => (-(2 ^ 62) ≤ i ∧ i < 2 ^ 62 ∧ -(2 ^ 62) ≤ j ∧ j < 2 ^ 62) ∧ qi (rngD i (j - i).toNat) ρ1
  | _ => False) x := rfl
theorem iR3_ {ta : AT} {qi : List D → Ev → Prop} : iR3 ta ρ qi x = ta ρ (fun rs ρ1 => match rs with
  | [.d (.int i), .d (.int j), .d (.int c)] => ∃ n, RgC i j c n ∧ qi (rngC i c n) ρ1
  | _ => False) x := rfl
theorem gVar_ {i : Nat} {d : D} {qg : Ev → Prop} : gVar i d ρ qg = qg (ρ.set i (.va d)) := rfl
theorem gTup_ {n : Nat} {gs : GTs} {ds : List D} {qg : Ev → Prop} : gTupD n gs (.tup ds) ρ qg = (ds.length = n ∧ gs ds ρ qg) := rfl
theorem gsNil_ {qg : Ev → Prop} : gsNil [] ρ qg = qg ρ := rfl
theorem gsCons_ {g : GT} {gs : GTs} {d : D} {ds : List D} {qg : Ev → Prop} : gsCons g gs (d :: ds) ρ qg = g d ρ fun ρ' => gs ds ρ' qg := rfl
theorem gSetL_ {to ti : ET} {d : D} {qg : Ev → Prop} : gSetL to ti d ρ qg = to ρ (fun r ρ1 => ti ρ1 (fun s ρ2 => some! (ownL ρ2 r) fun a => some! (intR ρ2 s) fun k => some! (ixN a.2.length k) fun j => qg (put a.1 (.lst (a.2.set j d)) ρ2)) fun _ _ => False) fun _ _ => False := rfl
end
section
variable {d : D} {i j : Int} {n : Nat} {ρ ρ' : Ev} {q : RV → Prop} {xs : List D} {b b' : Bool}
theorem rd_d : rd ρ (.d d) = some d := rfl
theorem rd_n : rd ρ (.n d) = some d := rfl
theorem rd_o : rd ρ (.o n) = rdS ρ[n]? := rfl
theorem rdS_va : rdS (some (.va d)) = some d := rfl
theorem rdS_ow : rdS (some (.ow d)) = some d := rfl
theorem rdS_io : rdS (some (.io d)) = some d := rfl
theorem slR_va : slR n (some (.va d)) = some (.d d) := rfl
theorem slR_ow : slR n (some (.ow d)) = some (.o n) := rfl
theorem slR_io : slR n (some (.io d)) = some (.o n) := rfl
theorem blR_ : blR (.d (.bl b)) = some b := rfl
theorem intR_ : intR ρ (.d (.int i)) = some i := rfl
theorem cool_d : cool (.d d) = .d d := rfl
theorem cool_n' : cool (.n d) = .d d := rfl
theorem cool_o : cool (.o n) = .o n := rfl
theorem rdL_nil : rdL ρ [] = some [] := rfl
theorem rdL_d {rs : List RV} (h : rdL ρ rs = some xs) : rdL ρ (.d d :: rs) = some (d :: xs) := by
  show (match some d, rdL ρ rs with | some x, some xs => some (x :: xs) | _, _ => none) = _
  rw [h]
theorem rdL_c {r : RV} {rs : List RV} : rdL ρ (r :: rs) = match rd ρ r, rdL ρ rs with | some x, some xs => some (x :: xs) | _, _ => none := rfl
theorem settle_d : settle ρ (.d d) = some (d, ρ) := rfl
theorem settle_n : settle ρ (.n d) = some (d, ρ) := rfl
theorem settle_o : settle ρ (.o n) = settleS n ρ ρ[n]? := rfl
theorem settleS_va : settleS n ρ (some (.va d)) = some (d, ρ) := rfl
theorem settleS_ow : settleS n ρ (some (.ow d)) = some (d, ρ.set n (.va d)) := rfl
theorem settleL_nil : settleL ρ [] = some ([], ρ) := rfl
theorem settleL_c {r : RV} {rs : List RV} : settleL ρ (r :: rs) = match settle ρ r with
    | some (x, ρ1) => match settleL ρ1 rs with
      | some (xs, ρ2) => some (x :: xs, ρ2)
      | none => none
    | none => none := rfl
theorem settleL_d {rs : List RV} : settleL ρ (.d d :: rs) = match settleL ρ rs with
      | some (xs, ρ2) => some (d :: xs, ρ2)
      | none => none := rfl
theorem store_d : store n ρ (.d d) = some (ρ.set n (.va d)) := rfl
theorem store_n : store n ρ (.n d) = some (ρ.set n (.ow d)) := rfl
theorem store_o {m : Nat} : store n ρ (.o m) = storeS n m ρ ρ[m]? := rfl
theorem storeS_ow {m : Nat} : storeS n m ρ (some (.ow d)) = some ((ρ.set m (.va d)).set n (.va d)) := rfl
theorem retR_d : retR ρ (.d d) = some (.d d) := rfl
theorem retR_n : retR ρ (.n d) = some (.n d) := rfl
theorem retR_o : retR ρ (.o n) = retS ρ[n]? := rfl
theorem retS_ow : retS (some (.ow d)) = some (.n d) := rfl
theorem ripe_d : ripe ρ (.d d) = some (.d d, ρ) := rfl
theorem ripe_n : ripe ρ (.n d) = some (.n d, ρ) := rfl
theorem ownL_o : ownL ρ (.o n) = match ownS ρ[n]? with | some (.lst xs) => some (n, xs) | _ => none := rfl
theorem ownS_ow : ownS (some (.ow d)) = some d := rfl
theorem ownS_io : ownS (some (.io d)) = some d := rfl
theorem put_ : put n d ρ = putS n d ρ ρ[n]? := rfl
theorem putS_ow {d' : D} : putS n d ρ (some (.ow d')) = ρ.set n (.ow d) := rfl
theorem putS_io {d' : D} : putS n d ρ (some (.io d')) = ρ.set n (.io d) := rfl
theorem seqS_lst : seqS (.lst xs) = some xs := rfl
theorem seqS_tup : seqS (.tup xs) = some xs := rfl
theorem seqS_fz : seqS (.fz xs) = some xs := rfl
theorem ioS_io : ioS (some (.io d)) = some d := rfl
theorem fI_ {C : Int → Int → Prop} {g : Int → Int → D} : fI C g (.int i) (.int j) q = (C i j ∧ q (.d (g i j))) := rfl
theorem fI0_ {g : Int → Int → D} : fI0 g (.int i) (.int j) q = q (.d (g i j)) := rfl
theorem fAdd_i : fAdd (.int i) (.int j) q = q (.d (.int (i + j))) := rfl
theorem fAdd_l {ys : List D} : fAdd (.lst xs) (.lst ys) q = (xs.length + ys.length ≤ sizeLine ∧ q (.n (.lst (xs ++ ys)))) := rfl
theorem fMul_i : fMul (.int i) (.int j) q = (CMulX i j ∧ q (.d (.int (i * j)))) := rfl
theorem fMul_l : fMul (.lst xs) (.int j) q = (-(2 ^ 63) ≤ j ∧ j < 2 ^ 63 ∧ xs.length * j.toNat ≤ sizeLine ∧ q (.n (.lst (List.replicate j.toNat xs).flatten))) := rfl
theorem fIx_l : fIx (.lst xs) (.int i) q = some! (atI xs i) fun x => q (.d x) := rfl
theorem fIx_t : fIx (.tup xs) (.int i) q = some! (atI xs i) fun x => q (.d x) := rfl
theorem fIx_f : fIx (.fz xs) (.int i) q = some! (atI xs i) fun x => q (.d x) := rfl
theorem fNeg_ : fNeg (.int i) q = q (.d (.int (-i))) := rfl
theorem fLen_l : fLen [.lst xs] q = q (.d (.int (xs.length : Int))) := rfl
theorem fIx_st {xs : List D} {i : Int} {q : RV → Prop} : fIx (.st xs) (.int i) q = some! (atI xs i) fun x => q (.d x) := rfl
theorem fLen_st {xs : List D} {q : RV → Prop} : fLen [.st xs] q = q (.d (.int (xs.length : Int))) := rfl
theorem seqS_st {xs : List D} : seqS (.st xs) = some xs := rfl
theorem fLen_t : fLen [.tup xs] q = q (.d (.int (xs.length : Int))) := rfl
theorem fLen_f : fLen [.fz xs] q = q (.d (.int (xs.length : Int))) := rfl
theorem fAbs_ : fAbs [.int i] q = q (.d (.int (if i < 0 then -i else i))) := rfl
theorem fInt1_i : fInt1 [.int i] q = q (.d (.int i)) := rfl
theorem fInt1_b : fInt1 [.bl b] q = q (.d (.int (if b then 1 else 0))) := rfl
theorem fInts2_ {g : Int → Int → Int} : fInts2 g [.int i, .int j] q = q (.d (.int (g i j))) := rfl
theorem fTuple_l : fTuple [.lst xs] q = q (.d (.tup xs)) := rfl
theorem fTuple_t : fTuple [.tup xs] q = q (.d (.tup xs)) := rfl
theorem fList_l : fList [.lst xs] q = q (.n (.lst xs)) := rfl
theorem fList_t : fList [.tup xs] q = q (.n (.lst xs)) := rfl
theorem fList_f : fList [.fz xs] q = q (.n (.lst xs)) := rfl
theorem fLRev_ : fLRev (.lst xs) q = q (.n (.lst xs.reverse)) := rfl
theorem fDivmod_ : fDivmod [.int i, .int j] q = (CDivP i j ∧ q (.d (.tup [.int (i / j), .int (i % j)]))) := rfl
theorem fIsi_ {T : TyN} : fIsi T d q = some! (isD T d) fun b => q (.d (.bl b)) := rfl
theorem fIs_n {k : Bool} : fIs k d .non q = some! (isNon d) fun z => q (.d (.bl (k ^^ z))) := rfl
theorem fEq_i : fEq (.int i) (.int j) q = q (.d (.bl (decide (i = j)))) := rfl
theorem fEq_b : fEq (.bl b) (.bl b') q = q (.d (.bl (decide (b = b')))) := rfl
theorem fNe_i : fNe (.int i) (.int j) q = q (.d (.bl (!decide (i = j)))) := rfl
theorem fNe_b : fNe (.bl b) (.bl b') q = q (.d (.bl (!decide (b = b')))) := rfl
theorem fEq_t {ys : List D} : fEq (.tup xs) (.tup ys) q = (shD (.tup xs) ∧ shD (.tup ys) ∧ q (.d (.bl (eqD (.tup xs) (.tup ys))))) := rfl
theorem fEq_l {ys : List D} : fEq (.lst xs) (.lst ys) q = (shD (.lst xs) ∧ shD (.lst ys) ∧ q (.d (.bl (eqD (.lst xs) (.lst ys))))) := rfl
theorem fNe_l {ys : List D} : fNe (.lst xs) (.lst ys) q = (shD (.lst xs) ∧ shD (.lst ys) ∧ q (.d (.bl (!eqD (.lst xs) (.lst ys))))) := rfl
theorem fNe_t {ys : List D} : fNe (.tup xs) (.tup ys) q = (shD (.tup xs) ∧ shD (.tup ys) ∧ q (.d (.bl (!eqD (.tup xs) (.tup ys))))) := rfl
theorem fEq_s {x y : Str} : fEq (.str x) (.str y) q = (shD (.str x) ∧ shD (.str y) ∧ q (.d (.bl (eqD (.str x) (.str y))))) := rfl
theorem truD_b {qb : Bool → Prop} : truD (.bl b) qb = qb b := rfl
theorem truD_i {qb : Bool → Prop} : truD (.int i) qb = qb (i != 0) := rfl
theorem truD_n {qb : Bool → Prop} : truD .non qb = qb false := rfl
end

theorem atI_at {α : Type} {l : List α} {i : Int} {n : Nat} {x : α} (e : i = (n : Int)) (h : l[n]? = some x) : atI l i = some x := by
  subst e
  have hn : n < l.length := (List.getElem?_eq_some_iff.mp h).1
  unfold atI ixN
  rw [if_pos (Int.natCast_nonneg n), if_pos (Int.ofNat_lt.mpr hn)]
  exact h
theorem atI_0 {α : Type} {a : α} {l : List α} : atI (a :: l) 0 = some a := atI_at (n := 0) rfl rfl
theorem atI_1 {α : Type} {a b : α} {l : List α} : atI (a :: b :: l) 1 = some b := atI_at (n := 1) rfl rfl
theorem atI_2 {α : Type} {a b c : α} {l : List α} : atI (a :: b :: c :: l) 2 = some c := atI_at (n := 2) rfl rfl
theorem atI_3 {α : Type} {a0 a1 a2 a3 : α} {l : List α} : atI (a0 :: a1 :: a2 :: a3 :: l) 3 = some a3 := atI_at (n := 3) rfl rfl
theorem atI_4 {α : Type} {a0 a1 a2 a3 a4 : α} {l : List α} : atI (a0 :: a1 :: a2 :: a3 :: a4 :: l) 4 = some a4 := atI_at (n := 4) rfl rfl
theorem atI_5 {α : Type} {a0 a1 a2 a3 a4 a5 : α} {l : List α} : atI (a0 :: a1 :: a2 :: a3 :: a4 :: a5 :: l) 5 = some a5 := atI_at (n := 5) rfl rfl
theorem atI_6 {α : Type} {a0 a1 a2 a3 a4 a5 a6 : α} {l : List α} : atI (a0 :: a1 :: a2 :: a3 :: a4 :: a5 :: a6 :: l) 6 = some a6 := atI_at (n := 6) rfl rfl
theorem atI_7 {α : Type} {a0 a1 a2 a3 a4 a5 a6 a7 : α} {l : List α} : atI (a0 :: a1 :: a2 :: a3 :: a4 :: a5 :: a6 :: a7 :: l) 7 = some a7 := atI_at (n := 7) rfl rfl
theorem atI_8 {α : Type} {a0 a1 a2 a3 a4 a5 a6 a7 a8 : α} {l : List α} : atI (a0 :: a1 :: a2 :: a3 :: a4 :: a5 :: a6 :: a7 :: a8 :: l) 8 = some a8 := atI_at (n := 8) rfl rfl
theorem atI_9 {α : Type} {a0 a1 a2 a3 a4 a5 a6 a7 a8 a9 : α} {l : List α} : atI (a0 :: a1 :: a2 :: a3 :: a4 :: a5 :: a6 :: a7 :: a8 :: a9 :: l) 9 = some a9 := atI_at (n := 9) rfl rfl
theorem atI_10 {α : Type} {a0 a1 a2 a3 a4 a5 a6 a7 a8 a9 a10 : α} {l : List α} : atI (a0 :: a1 :: a2 :: a3 :: a4 :: a5 :: a6 :: a7 :: a8 :: a9 :: a10 :: l) 10 = some a10 := atI_at (n := 10) rfl rfl
theorem atI_11 {α : Type} {a0 a1 a2 a3 a4 a5 a6 a7 a8 a9 a10 a11 : α} {l : List α} : atI (a0 :: a1 :: a2 :: a3 :: a4 :: a5 :: a6 :: a7 :: a8 :: a9 :: a10 :: a11 :: l) 11 = some a11 := atI_at (n := 11) rfl rfl
theorem atI_neg1 {α : Type} {l : List α} {n : Nat} {x : α} (e : l.length = n + 1) (h : l[n]? = some x) : atI l (-1) = some x := by
  unfold atI ixN
  rw [if_neg (by decide), e, if_pos (by omega)]
  show l[((-1 : Int) + ((n + 1 : Nat) : Int)).toNat]? = _
  rw [show ((-1 : Int) + ((n + 1 : Nat) : Int)).toNat = n by omega]
  exact h
/-- a loop whose things are known -/
def ForG (ds : List D) (g : GT) (tb : ST) (e : SE) (ρ1 : Ev) : Prop := ∃ P : Nat → Ev → Prop, P 0 ρ1 ∧ (∀ i d ρ, ds[i]? = some d → P i ρ → g d ρ fun ρ2 => tb { e with nx := P (i + 1), ct := P (i + 1), bk := e.nx } ρ2) ∧ (∀ ρ, P ds.length ρ → e.nx ρ)
def ForT (ds : List D) (g : GT) (tb : ST) (e : SE) (ρ1 : Ev) (_ : Tag (g, tb, e)) : Prop := ForG ds g tb e ρ1
theorem sFor_ {ti : IT} {g : GT} {tb : ST} {e : SE} {ρ : Ev} : sFor ti g tb e ρ = ti ρ (fun ds ρ1 => ForT ds g tb e ρ1 .mk) e.xc := rfl
def WhileG (c : BT) (tb : ST) (e : SE) (ρ : Ev) (_ : Tag (c, tb, e)) : Prop := sWhile c tb e ρ
theorem sWhile_ {c : BT} {tb : ST} {e : SE} {ρ : Ev} : sWhile c tb e ρ = WhileG c tb e ρ .mk := rfl
/-- a comprehension whose things are known -/
def LcG (ds : List D) (g : GT) (tt : BT) (te : ET) (vs : List Nat) (q : EK) (ρ1 : Ev) : Prop := (vs.all fun v => (ownS ρ1[v]?).isNone) = true ∧ ∃ P : Nat → List D → Ev → Prop, P 0 [] (wipeE ρ1 vs) ∧
  (∀ i d acc ρ2, ds[i]? = some d → P i acc ρ2 → g d ρ2 fun ρ3 => tt ρ3 (fun b ρ4 => if b = true then te ρ4 (fun r ρ5 => some! (settle ρ5 r) fun z => acc.length < sizeLine ∧ P (i + 1) (acc ++ [z.1]) (wipeE z.2 vs)) xNo else P (i + 1) acc (wipeE ρ4 vs)) xNo) ∧
  (∀ acc ρ2, P ds.length acc ρ2 → q (.n (.lst acc)) (unwipe ρ1 ρ2 vs))
def LcT (ds : List D) (g : GT) (tt : BT) (te : ET) (vs : List Nat) (q : EK) (ρ1 : Ev) (_ : Tag (g, tt, te, vs, q)) : Prop := LcG ds g tt te vs q ρ1
theorem tLc_ {ti : IT} {g : GT} {tt : BT} {te : ET} {vs : List Nat} {q : EK} {x : XQ} {ρ : Ev} : tLc' ti g tt te vs ρ q x = ti ρ (fun ds ρ1 => LcT ds g tt te vs q ρ1 .mk) x := rfl
/-- without tests, each element by itself: the slots ahead -/
theorem LcG.map {ds : List D} {g : GT} {te : ET} {vs : List Nat} {q : EK} {ρ : Ev} {f : Nat → D → D} (no : (vs.all fun v => (ownS ρ[v]?).isNone) = true) (hz : ds.length ≤ sizeLine)
    (h : ∀ i d, ds[i]? = some d → g d (wipeE ρ vs) fun ρ3 => te ρ3 (fun r ρ5 => some! (settle ρ5 r) fun z => z.1 = f i d ∧ wipeE z.2 vs = wipeE ρ vs) xNo)
    (hq : q (.n (.lst (ds.mapIdx f))) (unwipe ρ (wipeE ρ vs) vs)) (gm : ∀ d ρ (p r : Ev → Prop), g d ρ p → (∀ ρ', p ρ' → r ρ') → g d ρ r) (tm : ∀ ρ (p r : EK), te ρ p xNo → (∀ v ρ', p v ρ' → r v ρ') → te ρ r xNo) : LcG ds g bYes te vs q ρ := by
  refine ⟨no, fun i acc ρ2 => acc = (ds.mapIdx f).take i ∧ ρ2 = wipeE ρ vs, ⟨rfl, rfl⟩, fun i d acc ρ2 hd ⟨ea, eρ⟩ => ?_, fun acc ρ2 ⟨ea, eρ⟩ => ?_⟩
  · subst eρ
    have hi : i < ds.length := (List.getElem?_eq_some_iff.mp hd).1
    refine gm d _ _ _ (h i d hd) fun ρ3 h3 => ?_
    show te ρ3 _ xNo
    refine tm _ _ _ h3 fun r ρ5 h5 => ?_
    obtain ⟨z, e1, e2, e3⟩ := some!_ok h5
    rw [e1]
    refine ⟨?_, ?_, e3⟩
    · rw [ea, List.length_take, List.length_mapIdx]
      omega
    · rw [ea, e2, List.take_add_one]
      congr 1
      rw [List.getElem?_mapIdx, hd]
      rfl
  · subst eρ
    rw [List.take_of_length_le (by rw [List.length_mapIdx]; exact Nat.le_refl _)] at ea
    rw [ea]
    exact hq
end DL

set_option Elab.async false
set_option linter.all false
set_option maxRecDepth 100000
set_option maxHeartbeats 4000000
namespace DL
open PySem PySem.Spec PyProof.Rows L2
/-! ### sizes of whole numbers -/
def Bt (n : Nat) (i : Int) : Prop := i.natAbs < 2 ^ n
theorem bt_of {n : Nat} {i : Int} {b : Nat} (h : i.natAbs < b) (e : b ≤ 2 ^ n) : Bt n i := Nat.lt_of_lt_of_le h e
theorem bt_lit {i : Int} (h : i.natAbs < 2 ^ 64) : Bt 64 i := h
theorem Bt.mono {a b : Nat} {i : Int} (h : Bt a i) (e : a ≤ b) : Bt b i := Nat.lt_of_lt_of_le h (Nat.pow_le_pow_right (by decide) e)
theorem Bt.mul {a b : Nat} {i j : Int} (h : Bt a i) (k : Bt b j) : Bt (a + b) (i * j) := by
  unfold Bt at *
  rw [Int.natAbs_mul, Nat.pow_add]
  exact Nat.mul_lt_mul'' h k
theorem Bt.add {a b : Nat} {i j : Int} (h : Bt a i) (k : Bt b j) : Bt (a + b + 1) (i + j) := by
  unfold Bt at *
  have e1 : 2 ^ a ≤ 2 ^ (a + b) := Nat.pow_le_pow_right (by decide) (Nat.le_add_right a b)
  have e2 : 2 ^ b ≤ 2 ^ (a + b) := Nat.pow_le_pow_right (by decide) (Nat.le_add_left b a)
  have e3 : (i + j).natAbs ≤ i.natAbs + j.natAbs := Int.natAbs_add_le i j
  rw [Nat.pow_succ]
  omega
theorem Bt.neg {a : Nat} {i : Int} (h : Bt a i) : Bt a (-i) := by
  unfold Bt at *
  rwa [Int.natAbs_neg]
theorem Bt.sub {a b : Nat} {i j : Int} (h : Bt a i) (k : Bt b j) : Bt (a + b + 1) (i - j) := by
  rw [Int.sub_eq_add_neg]
  exact h.add k.neg
theorem Bt.div {a : Nat} {i j : Int} (h : Bt a i) : Bt (a + 1) (i / j) := by
  have e : (i / j).natAbs ≤ i.natAbs + 1 := by
    by_cases hj : j = 0
    · subst hj
      rw [Int.ediv_zero]
      omega
    · have h1 := Int.emod_nonneg i hj
      have h2 := Int.emod_lt i hj
      have h3 := Int.mul_ediv_add_emod i j
      rcases Nat.lt_or_ge (i / j).natAbs (i.natAbs + 2) with h4 | h4
      · omega
      · exfalso
        have h5 : (j * (i / j)).natAbs = j.natAbs * (i / j).natAbs := Int.natAbs_mul _ _
        have h6 : 1 ≤ j.natAbs := by omega
        obtain ⟨w, hw⟩ : ∃ w, j.natAbs = w + 1 := ⟨j.natAbs - 1, by omega⟩
        have h7 : j.natAbs * (i / j).natAbs = w * (i / j).natAbs + (i / j).natAbs := by rw [hw, Nat.add_mul, Nat.one_mul]
        have h8 : w * 2 ≤ w * (i / j).natAbs := Nat.mul_le_mul_left _ (by omega)
        omega
  unfold Bt at *
  have : 1 ≤ 2 ^ a := Nat.one_le_two_pow
  rw [Nat.pow_succ]
  omega
theorem Bt.mod {b : Nat} {i j : Int} (h : 0 < j) (k : Bt b j) : Bt b (i % j) := by
  unfold Bt at *
  have h1 := Int.emod_nonneg i (by omega : j ≠ 0)
  have h2 := Int.emod_lt_of_pos i h
  omega
theorem bt_bits {n : Nat} {i : Int} (h : Builtin.Int.intBits i ≤ n) : Bt n i := by
  unfold Bt
  unfold Builtin.Int.intBits at h
  by_cases e : i = 0
  · subst e
    exact Nat.two_pow_pos n
  · rw [if_neg (by simpa using e)] at h
    exact Nat.lt_of_lt_of_le (Nat.lt_log2_self) (Nat.pow_le_pow_right (by decide) h)
theorem cmulx {a b : Nat} {i j : Int} (h : Bt a i) (k : Bt b j) (e : a + b ≤ 134217728) : CMulX i j := mulx_ok h k e
theorem cdivw {b : Nat} {i j : Int} (h : 0 < j) (k : Bt b j) (e : b ≤ 9000) : CDivW i j := by
  refine ⟨h, ?_⟩
  have h1 : j.natAbs ≠ 0 := by omega
  exact Nat.lt_of_lt_of_le ((Nat.log2_lt h1).mpr k) e
theorem cdivp {a : Nat} {i j : Int} (h : 0 < j) (k : Bt a i) (e : a ≤ 4000) : CDivP i j := by
  refine divp_ok h (Nat.le_trans (PyProof.Rows.intBits_le k) (by omega))
/-- promises by a function -/
inductive Out where
  | r (v : RV) | x (c : Addr)
def OutG (o : Out) (q : RV → Prop) (x : Addr → Prop) : Prop := match o with
  | .r v => q v
  | .x c => x c
theorem outG_r {v : RV} {q : RV → Prop} {x : Addr → Prop} : OutG (.r v) q x = q v := rfl
theorem outG_x {c : Addr} {q : RV → Prop} {x : Addr → Prop} : OutG (.x c) q x = x c := rfl
def spF (f : List D → Option Out) : PSp := fun ds q x => some! (f ds) fun o => OutG o q x
theorem spF_ {f : List D → Option Out} {ds : List D} {q : RV → Prop} {x : Addr → Prop} : spF f ds q x = some! (f ds) fun o => OutG o q x := rfl
/-- a block cut behind its first statement -/
theorem sSeq_via {A B : ST} {e : SE} {ρ : Ev} (Q : Ev → Prop) (hA : ∀ N : Ev → Prop, (∀ ρ', Q ρ' → N ρ') → A { e with nx := N } ρ) (hB : ∀ ρ', Q ρ' → B e ρ') : sSeq A B e ρ := hA (B e) hB
theorem rngc_get {lo c : Int} {n i : Nat} {d : D} (h : (rngC lo c n)[i]? = some d) : i < n ∧ d = .int (lo + (i : Int) * c) := by
  unfold rngC at h
  rw [List.getElem?_map] at h
  rcases Nat.lt_or_ge i n with g | g
  · rw [List.getElem?_range g] at h
    exact ⟨g, (Option.some.inj h).symm⟩
  · rw [List.getElem?_eq_none (by rw [List.length_range]; exact g)] at h
    cases h
theorem rngc_len {lo c : Int} {n : Nat} : (rngC lo c n).length = n := by
  unfold rngC
  rw [List.length_map, List.length_range]
def isOp : D → Bool
  | .op _ => true
  | .dit _ => true
  | _ => false
end DL

set_option Elab.async false
set_option linter.all false
set_option maxRecDepth 100000
set_option maxHeartbeats 4000000
namespace DL
open PySem PySem.Spec PyProof.Rows L2
/-! ### a, b, c = e1, e2, e3 of plain local names -/
theorem store_waits {K : PySem.W.Frag} {p0 : Amb} {M0 M : Addr → Prop} {σ0 σ : L2.St} {H0 H : Hp} {ρ0 ρ ρ' : Ev} {i : Nat} {u : V} {r : RV} (S0 : Sim K p0 M0 σ0 H0 ρ0) (P : Post K p0 M0 σ0 H0 ρ0 M σ H ρ)
    (R : RVok K M σ ρ H0 H u r) (e : store i ρ r = some ρ') :
    ∃ M', Post K p0 M0 σ0 H0 ρ0 M' (σ.set i (some u)) H ρ' ∧ ∀ (H1 : Hp) (v : V) (s : RV), RVok K M σ ρ H1 H v s → (∀ k, s ≠ .o k) → (∀ a, u = .ref a → (∃ x, r = .n x) → H1 a ≠ none) → RVok K M' (σ.set i (some u)) ρ' H1 H v s := by
  have cold : ∀ (R' : RVok K M σ ρ H H u r), ∃ M', Post K p0 M0 σ0 H0 ρ0 M' (σ.set i (some u)) H ρ' ∧ ∀ (H1 : Hp) (v : V) (s : RV), RVok K M σ ρ H1 H v s → (∀ k, s ≠ .o k) → (∀ a, u = .ref a → (∃ x, r = .n x) → H1 a ≠ none) → RVok K M' (σ.set i (some u)) ρ' H1 H v s := fun R' => by
    obtain ⟨M', P'⟩ := store_ok (i := i) P.sim (Post.refl P.sim) R' e
    refine ⟨M', P.trans S0 P', fun H1 v s T nk fr => ?_⟩
    cases s with
    | d x => exact Rep.keep (P'.keep P.sim) T
    | n x =>
      obtain ⟨p, rfl, m, nw, f, o⟩ := T
      exact ⟨p, rfl, P'.step.kp p m nw, fun z => (P'.wr p z).elim nw o.some, f, o.keep (P'.keep P.sim) fun _ z _ => z⟩
    | o k => exact absurd rfl (nk k)
  cases r with
  | d x => exact cold R
  | o k => exact cold R
  | n x =>
    cases e
    obtain ⟨p, rfl, m, nw, f, o⟩ := R
    obtain ⟨S1, w1⟩ := store_ow (i := i) P.sim m nw o (fun z => S0.p0k p z f) (fun _ _ => trivial)
    refine ⟨M, ⟨S1, P.step, fun a h => ?_⟩, fun H1 v s T nk fr => ?_⟩
    · rcases w1 a h with h | h
      · exact P.wr a h
      · exact .inr (h ▸ f)
    · cases s with
      | d x => exact T
      | n y =>
        obtain ⟨p2, rfl, m2, nw2, f2, o2⟩ := T
        refine ⟨p2, rfl, m2, fun z => ?_, f2, o2⟩
        rcases w1 p2 z with h | h
        · exact nw2 h
        · exact fr p rfl ⟨x, rfl⟩ (h ▸ f2)
      | o k => exact absurd rfl (nk k)
def sPar3 (i j l : Nat) (ta tb tc : ET) : ST := fun e ρ => ta ρ (fun r ρ1 => tb ρ1 (fun s ρ2 => tc ρ2 (fun t ρ3 => some! (ripe ρ3 t) fun y => some! (ripe y.2 s) fun z => some! (store i z.2 r) fun ρ4 => some! (store j ρ4 z.1) fun ρ5 => some! (store l ρ5 y.1) e.nx) e.xc) e.xc) e.xc
theorem ripe_n_of {ρ ρ' : Ev} {r s : RV} (e : ripe ρ r = some (s, ρ')) {x : D} (h : s = .n x) : r = .n x := by
  subst h
  cases r with
  | d y => cases e
  | n y => cases e; rfl
  | o i =>
    unfold ripe at e
    simp only at e
    split at e <;> cases e
section
variable {X : Cx} {p : Amb} {W : WX} {a b c : Expr} {ta tb tc : ET} {pos : Pos}
theorem ds_par3 {i j l : Nat} {x y z : Str} {px py pz pt : Pos} {kt k2 pt2} (hc : X.calm = true) (hN : X.N.Nodup) (hi : X.N[i]? = some x) (hj : X.N[j]? = some y) (hl : X.N[l]? = some z) (hij : i ≠ j) (hil : i ≠ l) (hjl : j ≠ l)
    (hx : X.env.scope.names.lookup x = some .local) (hy : X.env.scope.names.lookup y = some .local) (hz : X.env.scope.names.lookup z = some .local) (ha : DE X p W a ta) (hb : DE X p W b tb) (hcc : DE X p W c tc)
    (hw : swappedStores [.Tuple [.Name x px, .Name y py, .Name z pz] kt pt] (.Tuple [a, b, c] k2 pt2) X.env = pure (some [x, y, z]))
    (hsa : starEach [a, b, c] X.env = (false, eval a X.env) :: starEach [b, c] X.env := by rfl) (hsb : starEach [b, c] X.env = (false, eval b X.env) :: starEach [c] X.env := by rfl) (hsc : starEach [c] X.env = (false, eval c X.env) :: starEach [] X.env := by rfl)
    (hs : swapsWithSole [.Tuple [.Name x px, .Name y py, .Name z pz] kt pt] (.Tuple [a, b, c] k2 pt2) pos.line X.env = pure false := by rfl) :
    DS X p W (.Assign [.Tuple [.Name x px, .Name y py, .Name z pz] kt pt] (.Tuple [a, b, c] k2 pt2) pos) (sPar3 i j l ta tb tc) := ⟨PS.imp (ps_par3 hc hN hi hj hl hij hil hjl hx hy hz (pa_cons ha.pe (pa_cons hb.pe (pa_cons hcc.pe pa_nil hsc) hsb) hsa) hw hs) fun D σ H ⟨M, ρ, e, S, h, lk⟩ => by
  refine ⟨M, ρ, _, _, S, h, fun v M1 H1 ρ1 r P1 S1 R1 h1 => ?_, fun c M1 H1 ρ1 P1 h1 => lk.xc c M1 σ H1 ρ1 P1 h1⟩
  refine ⟨M1, ρ1, _, _, P1.sim, h1, fun u M2 H2 ρ2 s P2 S2 R2 h2 => ?_, fun c M2 H2 ρ2 P2 h2 => lk.xc c M2 σ H2 ρ2 (P1.trans S P2) h2⟩
  have P12 := P1.trans S P2
  refine ⟨M2, ρ2, _, _, P2.sim, h2, fun w M3 H3 ρ3 t P3 S3 R3 h3 => ?_, fun c M3 H3 ρ3 P3 h3 => lk.xc c M3 σ H3 ρ3 (P12.trans S P3) h3⟩
  have P13 := P12.trans S P3
  obtain ⟨⟨t', ρ4⟩, e1, h4⟩ := some!_ok h3
  obtain ⟨M4, P4, S4, R4, nk4⟩ := ripe_ok P3.sim R3 e1
  obtain ⟨⟨s', ρ5⟩, e2, h5⟩ := some!_ok h4
  have R2' := (R2.post P2.sim P3 S3).post P3.sim P4 S4
  obtain ⟨M5, P5, S5, R5, nk5⟩ := ripe_ok P4.sim R2' e2
  have R4' : RVok X.K M5 σ ρ5 H2 H3 w t' := R4.post P4.sim P5 S5
  have R1' := (((R1.post P1.sim P2 S2).post P2.sim P3 S3).post P3.sim P4 S4).post P4.sim P5 S5
  have P15 := (P13.trans S P4).trans S P5
  obtain ⟨ρ6, e3, h6⟩ := some!_ok h5
  obtain ⟨M6, P6, W6⟩ := store_waits (i := i) S P15 R1' e3
  have T5 := W6 H1 u s' R5 nk5 (n_there R1)
  have d12 : ∀ a, H1 a ≠ none → H2 a ≠ none := P2.step.dom
  have T4 := W6 H2 w t' R4' nk4 fun a ea hx => d12 a (n_there R1 a ea hx)
  obtain ⟨ρ7, e4, h7⟩ := some!_ok h6
  have T5' : RVok X.K M6 (σ.set i (some v)) ρ6 H H3 u s' := T5.back P1.step.dom
  obtain ⟨M7, P7, W7⟩ := store_waits (i := j) S P6 T5' e4
  have T4' := W7 H2 w t' T4 nk4 fun a ea ⟨x, hx⟩ => n_there R2 a ea ⟨x, ripe_n_of e2 hx⟩
  obtain ⟨ρ8, e5, h8⟩ := some!_ok h7
  have T4'' : RVok X.K M7 ((σ.set i (some v)).set j (some u)) ρ7 H H3 w t' := T4'.back P12.step.dom
  obtain ⟨M8, P8⟩ := store_ok (i := l) S P7 T4'' e5
  exact ⟨v, u, w, rfl, lk.nx M8 _ H3 ρ8 P8 h8⟩⟩
/-! ### a module's name for a built-in function: gcd -/
def fGcd : List D → (RV → Prop) → Prop := fun ds q => match ds with
  | [.int i, .int j] => q (.d (.int ((Nat.gcd i.natAbs j.natAbs : Nat) : Int)))
  | _ => False
theorem gcd_ok {K : PySem.W.Frag} : RCD K rGcd fGcd := by
  intro M H vs ds Q q mok r h k
  unfold fGcd at h
  split at h
  next i j =>
    obtain ⟨v, u, rfl, r1, r2⟩ := r.two
    rw [r1.int, r2.int]
    exact ⟨i, j, rfl, k _ M H _ (ResOk.same mok (.int _)) h⟩
  next => exact h.elim
theorem de_gcd {x : Str} {pos' : Pos} (hm : X.mg x = some (.builtin "math.gcd")) (ha : DE X p W a ta) (hb : DE X p W b tb) (hg : Gl X x := by rfl) (hdb : (x == ("__debug__" : Str)) = false := by decide) (he : starEach [a, b] X.env = (false, eval a X.env) :: starEach [b] X.env := by rfl) (he2 : starEach [b] X.env = (false, eval b X.env) :: starEach [] X.env := by rfl) (hpl : (backTo pos (starEach [b] X.env)).any (·.1) = false := by rfl) :
    DE X p W (.Call (.Name x pos') [a, b] [] pos) (tC' fGcd (aCons ta (aCons tb aNil))) := ⟨PE.imp (pe_callBfun cr_gcd hg hm (da_cons ha (da_cons hb da_nil he2) he).pa hdb he hpl) fun σ H Q h => tC_ok gcd_ok h⟩
/-! ### a global that is a datum for good -/
def GD (K : PySem.W.Frag) (mg : Str → Option Value) (x : Str) (d : D) : Prop := ∃ (u : Value) (v : V), mg x = some u ∧ RelV v u ∧ ∀ M H, Rep K M H v d
theorem de_gd {x : Str} {d : D} (G : GD X.K X.mg x d) (hg : Gl X x := by rfl) (hd : (x == ("__debug__" : Str)) = false := by decide) : DE X p W (.Name x pos) (tK d) := by
  obtain ⟨u, v, hm, r, hr⟩ := G
  exact de_k (pe_glob hg hm r hd) hr
end
/-- a tuple of whole numbers that the top has made -/
theorem gd_ints {K : PySem.W.Frag} {mg : Str → Option Value} {x : Str} {a : Addr} {od : Option Addr} {its : Array Value} {n : Nat} {sl : Array (Option Value)} {ns : List Int} (hm : mg x = some (.ref a)) (l : K.lookup a = some ⟨.type "tuple", od, .seq its n, sl⟩) (h : Vals (ns.map V.int) its.toList) (hz : its.size ≤ 1000) : GD K mg x (.st (ns.map .int)) :=
  ⟨_, .ref a, hm, rfl, fun M H => .st ⟨_, its, n, l, rfl, rfl, sz1000 hz, h⟩ (RepL.of_ints ns)⟩
theorem sPar3_ {i j l : Nat} {ta tb tc : ET} {e : SE} {ρ : Ev} : sPar3 i j l ta tb tc e ρ = ta ρ (fun r ρ1 => tb ρ1 (fun s ρ2 => tc ρ2 (fun t ρ3 => some! (ripe ρ3 t) fun y => some! (ripe y.2 s) fun z => some! (store i z.2 r) fun ρ4 => some! (store j ρ4 z.1) fun ρ5 => some! (store l ρ5 y.1) e.nx) e.xc) e.xc) e.xc := rfl
theorem fGcd_ {i j : Int} {q : RV → Prop} : fGcd [.int i, .int j] q = q (.d (.int ((Nat.gcd i.natAbs j.natAbs : Nat) : Int))) := rfl
theorem ripe_o {ρ : Ev} {i : Nat} : ripe ρ (.o i) = (match settle ρ (.o i) with | some (x, ρ1) => some (.d x, ρ1) | none => none) := rfl
end DL

set_option Elab.async false
set_option linter.all false
set_option maxRecDepth 100000
set_option maxHeartbeats 4000000
namespace DL
open PySem PySem.Spec PyProof.Rows L2
/-! ### in, not in of flat things -/
def flatD : D → Bool
  | .non => true
  | .bl _ => true
  | .int _ => true
  | .str _ => true
  | _ => false
def eqF : D → D → Bool
  | .non, .non => true
  | .bl a, .bl b => a == b
  | .bl a, .int b => (if a then 1 else 0) == b
  | .int a, .bl b => a == (if b then 1 else 0)
  | .int a, .int b => a == b
  | .str a, .str b => a == b
  | _, _ => false
def inF (x : D) (xs : List D) : Bool := xs.any fun y => eqF y x
section
variable {K : PySem.W.Frag} {M : Addr → Prop} {H : Hp}
theorem flat_rep {v : V} {d : D} (r : Rep K M H v d) (h : flatD d = true) : flatV v = true := by
  cases r with
  | op v => cases h
  | tup _ _ => cases h
  | st _ _ => cases h
  | lst _ _ _ => cases h
  | fz _ _ => cases h
  | dic _ _ _ => cases h
  | dit _ _ _ => cases h
  | _ => rfl
theorem flat_repC {v : V} {d : D} (r : RepC K M H v d) (h : flatD d = true) : flatV v = true := by
  rcases r with r | ⟨p, rfl, o⟩
  · exact flat_rep r h
  · cases d with
    | lst _ => cases h
    | dic _ => cases h
    | dit _ => cases h
    | _ => exact o.elim
theorem eqF_rep {v u : V} {d e : D} (r : Rep K M H v d) (s : RepC K M H u e) (h : flatD d = true) (k : flatD e = true) : eqV v u = eqF d e := by
  cases d with
  | non =>
    cases r
    cases e with
    | non => rw [s.non]; rfl
    | bl _ => rw [s.bl]; rfl
    | int _ => rw [s.int]; rfl
    | str _ => rw [s.str]; rfl
    | _ => cases k
  | bl _ =>
    cases r
    cases e with
    | non => rw [s.non]; rfl
    | bl _ => rw [s.bl]; rfl
    | int _ => rw [s.int]; rfl
    | str _ => rw [s.str]; rfl
    | _ => cases k
  | int _ =>
    cases r
    cases e with
    | non => rw [s.non]; rfl
    | bl _ => rw [s.bl]; rfl
    | int _ => rw [s.int]; rfl
    | str _ => rw [s.str]; rfl
    | _ => cases k
  | str _ =>
    cases r
    cases e with
    | non => rw [s.non]; rfl
    | bl _ => rw [s.bl]; rfl
    | int _ => rw [s.int]; rfl
    | str _ => rw [s.str]; rfl
    | _ => cases k
  | _ => cases h
theorem flat_repL : ∀ {vs : List V} {ds : List D}, RepL K M H vs ds → ds.all flatD = true → vs.all flatV = true
  | _, _, .nil, _ => rfl
  | _, _, .cons r t, h => by
    simp only [List.all_cons, Bool.and_eq_true] at h ⊢
    exact ⟨flat_rep r h.1, flat_repL t h.2⟩
theorem inF_rep {u : V} {e : D} (s : RepC K M H u e) (k : flatD e = true) : ∀ {vs : List V} {ds : List D}, RepL K M H vs ds → ds.all flatD = true → inV u vs = inF e ds
  | _, _, .nil, _ => rfl
  | _, _, .cons (v := v) (vs := vs) (d := d) (ds := ds) r t, h => by
    simp only [List.all_cons, Bool.and_eq_true] at h
    show (eqV v u || inV u vs) = (eqF d e || inF e ds)
    rw [eqF_rep r s h.1 k, inF_rep s k t h.2]
end
def fIn (neg : Bool) : D → D → (RV → Prop) → Prop := fun a b q => match b with
  | .lst xs => flatD a = true ∧ xs.all flatD = true ∧ q (.d (.bl (neg ^^ inF a xs)))
  | .tup xs => flatD a = true ∧ xs.all flatD = true ∧ q (.d (.bl (neg ^^ inF a xs)))
  | .st xs => flatD a = true ∧ xs.all flatD = true ∧ q (.d (.bl (neg ^^ inF a xs)))
  | .fz xs => flatD a = true ∧ xs.all flatD = true ∧ q (.d (.bl (neg ^^ inF a xs)))
  | _ => False
theorem rIn_ok {K : PySem.W.Frag} {neg : Bool} : R2D K (rIn K neg) (fIn neg) := by
  intro M H x y a b Q q mok ra rb h k
  have fin : ∀ (xs : List V) (ds : List D), RepL K M H xs ds → ds.all flatD = true → flatD a = true → q (.d (.bl (neg ^^ inF a ds))) → Q (.bl (if neg then !inV x xs else inV x xs)) H := fun xs ds r hf ha hq => by
    rw [inF_rep ra ha r hf]
    cases neg
    · rw [Bool.false_xor] at hq; exact k _ M H _ (ResOk.same mok (.bl _)) hq
    · rw [Bool.true_xor] at hq; exact k _ M H _ (ResOk.same mok (.bl _)) hq
  cases b with
  | lst ds =>
    obtain ⟨p, xs, e, hx, r⟩ := rb.lst
    exact ⟨p, xs, e, .inl (SqL.of hx), flat_repC ra h.1, flat_repL r h.2.1, fin xs ds r h.2.1 h.1 h.2.2⟩
  | tup ds =>
    obtain ⟨p, xs, e, hx, r⟩ := rb.tup
    exact ⟨p, xs, e, .inr hx.sq, flat_repC ra h.1, flat_repL r h.2.1, fin xs ds r h.2.1 h.1 h.2.2⟩
  | st ds =>
    obtain ⟨p, xs, e, hx, r⟩ := rb.st
    exact ⟨p, xs, e, .inr (SqTS.sq hx), flat_repC ra h.1, flat_repL r h.2.1, fin xs ds r h.2.1 h.1 h.2.2⟩
  | fz ds =>
    obtain ⟨p, xs, e, hx, r⟩ := rb.fz
    exact ⟨p, xs, e, .inl hx.sq, flat_repC ra h.1, flat_repL r h.2.1, fin xs ds r h.2.1 h.1 h.2.2⟩
  | _ => exact h.elim
section
variable {X : Cx} {p : Amb} {W : WX} {a b c e : Expr} {ta tb tc te : ET} {pos : Pos}
theorem de_in {k : Nat} (hr : Room k X.A) (ha : DE X p W a ta) (hb : DE X p W b tb) (hm : behindInMarks .In b = false := by rfl) : DE X p W (.Compare a [.In] [b] pos) (t2 (fIn false) ta tb) := de_cmp op_in_seq rIn_ok ha hb hm
theorem de_notin {k : Nat} (hr : Room k X.A) (ha : DE X p W a ta) (hb : DE X p W b tb) (hm : behindInMarks .NotIn b = false := by rfl) : DE X p W (.Compare a [.NotIn] [b] pos) (t2 (fIn true) ta tb) := de_cmp op_notIn_seq rIn_ok ha hb hm
theorem db_in {k : Nat} (hr : Room k X.A) (ha : DE X p W a ta) (hb : DE X p W b tb) (hm : behindInMarks .In b = false := by rfl) : DB X p W (.Compare a [.In] [b] pos) (tT (t2 (fIn false) ta tb)) := db_cmp op_in_seq rIn_ok ha hb hm
theorem db_notin {k : Nat} (hr : Room k X.A) (ha : DE X p W a ta) (hb : DE X p W b tb) (hm : behindInMarks .NotIn b = false := by rfl) : DB X p W (.Compare a [.NotIn] [b] pos) (tT (t2 (fIn true) ta tb)) := db_cmp op_notIn_seq rIn_ok ha hb hm
end
/-! ### dicts whose keys are whole numbers and texts -/
def keyD : D → Option Key
  | .int i => some (.inl i)
  | .str x => some (.inr x)
  | _ => none
theorem keyD_ok {K : PySem.W.Frag} {M : Addr → Prop} {H : Hp} {v : V} {d : D} {k : Key} (r : RepC K M H v d) (h : keyD d = some k) : v = kV k := by
  cases d with
  | int i => cases h; exact r.int
  | str i => cases h; exact r.str
  | _ => cases h
def keyDs : List D → Option (List Key)
  | [] => some []
  | d :: r => (keyD d).bind fun k => (keyDs r).map (k :: ·)
def keyT : D → Option (List Key)
  | .tup ds => keyDs ds
  | _ => none
theorem keyDs_ok {K : PySem.W.Frag} {M : Addr → Prop} {H : Hp} : ∀ {vs : List V} {ds : List D} {ks : List Key}, RepL K M H vs ds → keyDs ds = some ks → vs = ks.map kV
  | _, _, _, .nil, e => by cases e; rfl
  | _, _, _, .cons r t, e => by
    obtain ⟨k, e1, e2⟩ := Option.bind_eq_some_iff.mp e
    obtain ⟨ks', e3, rfl⟩ := Option.map_eq_some_iff.mp e2
    rw [List.map_cons, keyD_ok (.inl r) e1, keyDs_ok t e3]
theorem keyT_ok {K : PySem.W.Frag} {M : Addr → Prop} {H : Hp} {v : V} {d : D} {k : List Key} (r : RepC K M H v d) (h : keyT d = some k) : ∃ b, v = .ref b ∧ H b = some (.tup (k.map kV)) := by
  cases d with
  | tup ds =>
    obtain ⟨a, xs, rfl, s, t⟩ := r.tup
    have e := keyDs_ok t h
    subst e
    exact ⟨a, rfl, s⟩
  | _ => cases h
def kD : Key → D
  | .inl i => .int i
  | .inr x => .str x
def kT (ks : List Key) : D := .tup (ks.map kD)
theorem kD_rep {K : PySem.W.Frag} {M : Addr → Prop} {H : Hp} (k : Key) : Rep K M H (kV k) (kD k) := by
  cases k with
  | inl i => exact .int i
  | inr x => exact .str x
theorem kDs_rep {K : PySem.W.Frag} {M : Addr → Prop} {H : Hp} : ∀ ks : List Key, RepL K M H (ks.map kV) (ks.map kD)
  | [] => .nil
  | k :: ks => .cons (kD_rep k) (kDs_rep ks)
theorem keyD_k (k : Key) : keyD (kD k) = some k := by cases k <;> rfl
theorem keyDs_k : ∀ ks : List Key, keyDs (ks.map kD) = some ks
  | [] => rfl
  | k :: ks => by
    rw [List.map_cons]
    show (keyD (kD k)).bind _ = _
    rw [keyD_k, Option.bind_some, keyDs_k ks]
    rfl
theorem keyT_k (ks : List Key) : keyT (kT ks) = some ks := keyDs_k ks
def valT (kds : List (List Key × D)) (k : List Key) : Option D := (kds.find? fun kv => decide (kv.1 = k)).map (·.2)
def putT (kds : List (List Key × D)) (k : List Key) (d : D) : List (List Key × D) := if kds.any (fun kv => decide (kv.1 = k)) then kds.map fun kv => if kv.1 = k then (kv.1, d) else kv else kds ++ [(k, d)]
def valD (kds : List (Key × D)) (k : Key) : Option D := (kds.find? fun kv => decide (kv.1 = k)).map (·.2)
def putD (kds : List (Key × D)) (k : Key) (d : D) : List (Key × D) := if kds.any (fun kv => decide (kv.1 = k)) then kds.map fun kv => if kv.1 = k then (kv.1, d) else kv else kds ++ [(k, d)]
section
variable {K : PySem.W.Frag} {M : Addr → Prop} {H : Hp}
theorem RepK.length : ∀ {vs : List (Key × V)} {ds : List (Key × D)}, RepK K M H vs ds → vs.length = ds.length
  | _, _, .nil => rfl
  | _, _, .cons _ t => by rw [List.length_cons, List.length_cons, RepK.length t]
theorem RepK.val {k : Key} : ∀ {vs : List (Key × V)} {ds : List (Key × D)}, RepK K M H vs ds → (valV vs k = none ∧ valD ds k = none) ∨ ∃ v d, valV vs k = some v ∧ valD ds k = some d ∧ Rep K M H v d
  | _, _, .nil => .inl ⟨rfl, rfl⟩
  | _, _, .cons (k := j) (v := v) (vs := vs) (d := d) (ds := ds) r t => by
    by_cases e : j = k
    · refine .inr ⟨v, d, ?_, ?_, r⟩
      · unfold valV; rw [List.find?_cons, show decide ((j, v).1 = k) = true from decide_eq_true e]; rfl
      · unfold valD; rw [List.find?_cons, show decide ((j, d).1 = k) = true from decide_eq_true e]; rfl
    · have e1 : valV ((j, v) :: vs) k = valV vs k := by unfold valV; rw [List.find?_cons, show decide ((j, v).1 = k) = false from decide_eq_false e]
      have e2 : valD ((j, d) :: ds) k = valD ds k := by unfold valD; rw [List.find?_cons, show decide ((j, d).1 = k) = false from decide_eq_false e]
      rw [e1, e2]
      exact RepK.val t
theorem RepK.any {k : Key} : ∀ {vs : List (Key × V)} {ds : List (Key × D)}, RepK K M H vs ds → (vs.any fun kv => decide (kv.1 = k)) = ds.any fun kv => decide (kv.1 = k)
  | _, _, .nil => rfl
  | _, _, .cons (k := j) r t => by rw [List.any_cons, List.any_cons, RepK.any t]
theorem RepK.repl {k : Key} {v : V} {d : D} (r : Rep K M H v d) : ∀ {vs : List (Key × V)} {ds : List (Key × D)}, RepK K M H vs ds → RepK K M H (vs.map fun kv => if kv.1 = k then (kv.1, v) else kv) (ds.map fun kv => if kv.1 = k then (kv.1, d) else kv)
  | _, _, .nil => .nil
  | _, _, .cons (k := j) (v := u) (d := e) s t => by
    rw [List.map_cons, List.map_cons]
    by_cases z : j = k
    · rw [if_pos (show (j, u).1 = k from z), if_pos (show (j, e).1 = k from z)]
      exact .cons r (RepK.repl r t)
    · rw [if_neg (show ¬ (j, u).1 = k from z), if_neg (show ¬ (j, e).1 = k from z)]
      exact .cons s (RepK.repl r t)
theorem RepK.append : ∀ {v w : List (Key × V)} {d e : List (Key × D)}, RepK K M H v d → RepK K M H w e → RepK K M H (v ++ w) (d ++ e)
  | _, _, _, _, .nil, s => s
  | _, _, _, _, .cons r t, s => .cons r (RepK.append t s)
theorem RepK.put {k : Key} {v : V} {d : D} (r : Rep K M H v d) {vs : List (Key × V)} {ds : List (Key × D)} (h : RepK K M H vs ds) : RepK K M H (putK vs k v) (putD ds k d) := by
  unfold putK putD
  rw [h.any]
  split
  · exact h.repl r
  · exact h.append (.cons r .nil)
end
section
variable {K : PySem.W.Frag} {M : Addr → Prop} {H : Hp}
theorem RepT.length : ∀ {vs : List (List Key × V)} {ds : List (List Key × D)}, RepT K M H vs ds → vs.length = ds.length
  | _, _, .nil => rfl
  | _, _, .cons _ t => by rw [List.length_cons, List.length_cons, RepT.length t]
theorem RepT.val {k : List Key} : ∀ {vs : List (List Key × V)} {ds : List (List Key × D)}, RepT K M H vs ds → (valV vs k = none ∧ valT ds k = none) ∨ ∃ v d, valV vs k = some v ∧ valT ds k = some d ∧ Rep K M H v d
  | _, _, .nil => .inl ⟨rfl, rfl⟩
  | _, _, .cons (k := j) (v := v) (vs := vs) (d := d) (ds := ds) r t => by
    by_cases e : j = k
    · refine .inr ⟨v, d, ?_, ?_, r⟩
      · unfold valV; rw [List.find?_cons, show decide ((j, v).1 = k) = true from decide_eq_true e]; rfl
      · unfold valT; rw [List.find?_cons, show decide ((j, d).1 = k) = true from decide_eq_true e]; rfl
    · have e1 : valV ((j, v) :: vs) k = valV vs k := by unfold valV; rw [List.find?_cons, show decide ((j, v).1 = k) = false from decide_eq_false e]
      have e2 : valT ((j, d) :: ds) k = valT ds k := by unfold valT; rw [List.find?_cons, show decide ((j, d).1 = k) = false from decide_eq_false e]
      rw [e1, e2]
      exact RepT.val t
theorem RepT.any {k : List Key} : ∀ {vs : List (List Key × V)} {ds : List (List Key × D)}, RepT K M H vs ds → (vs.any fun kv => decide (kv.1 = k)) = ds.any fun kv => decide (kv.1 = k)
  | _, _, .nil => rfl
  | _, _, .cons (k := j) r t => by rw [List.any_cons, List.any_cons, RepT.any t]
theorem RepT.repl {k : List Key} {v : V} {d : D} (r : Rep K M H v d) : ∀ {vs : List (List Key × V)} {ds : List (List Key × D)}, RepT K M H vs ds → RepT K M H (vs.map fun kv => if kv.1 = k then (kv.1, v) else kv) (ds.map fun kv => if kv.1 = k then (kv.1, d) else kv)
  | _, _, .nil => .nil
  | _, _, .cons (k := j) (v := u) (d := e) s t => by
    rw [List.map_cons, List.map_cons]
    by_cases z : j = k
    · rw [if_pos (show (j, u).1 = k from z), if_pos (show (j, e).1 = k from z)]
      exact .cons r (RepT.repl r t)
    · rw [if_neg (show ¬ (j, u).1 = k from z), if_neg (show ¬ (j, e).1 = k from z)]
      exact .cons s (RepT.repl r t)
theorem RepT.append : ∀ {v w : List (List Key × V)} {d e : List (List Key × D)}, RepT K M H v d → RepT K M H w e → RepT K M H (v ++ w) (d ++ e)
  | _, _, _, _, .nil, s => s
  | _, _, _, _, .cons r t, s => .cons r (RepT.append t s)
theorem RepT.put {k : List Key} {v : V} {d : D} (r : Rep K M H v d) {vs : List (List Key × V)} {ds : List (List Key × D)} (h : RepT K M H vs ds) : RepT K M H (putK vs k v) (putT ds k d) := by
  unfold putK putT
  rw [h.any]
  split
  · exact h.repl r
  · exact h.append (.cons r .nil)
end
def fInD (neg : Bool) : D → D → (RV → Prop) → Prop := fun a b q => match b with
  | .dic kvs => some! (keyD a) fun k => q (.d (.bl (neg ^^ (valD kvs k).isSome)))
  | .dit kvs => some! (keyT a) fun k => q (.d (.bl (neg ^^ (valT kvs k).isSome)))
  | _ => False
def rInD (neg : Bool) : R2 := fun y x H Q => ∃ a o, x = .ref a ∧ DGet H a y o ∧ Q (.bl (neg ^^ o.isSome)) H
theorem op_inD {X : Cx} (hu : X.A.units + 1 < cLine) : OpR X (compareOp .In) (rInD false) := by
  intro pins s σ H x y v u Q I rx ry h
  obtain ⟨a, o, rfl, g, q⟩ := h
  cases (show u = Value.ref a from ry)
  exact d_in hu I g rx fun s' I' => ⟨.bl o.isSome, H, I', rfl, by rw [Bool.false_xor] at q; exact q⟩
theorem op_notinD {X : Cx} (hu : X.A.units + 1 < cLine) : OpR X (compareOp .NotIn) (rInD true) := by
  intro pins s σ H x y v u Q I rx ry h
  obtain ⟨a, o, rfl, g, q⟩ := h
  cases (show u = Value.ref a from ry)
  exact d_notIn hu I g rx fun s' I' => ⟨.bl (!o.isSome), H, I', rfl, by rw [Bool.true_xor] at q; exact q⟩
theorem rInD_ok {K : PySem.W.Frag} {neg : Bool} : R2D K (rInD neg) (fInD neg) := by
  intro M H x y a b Q q mok ra rb h k
  cases b with
  | dic ds =>
    obtain ⟨key, e, h⟩ := some!_ok h
    obtain ⟨p, xs, ey, hx, r⟩ := rb.dic
    obtain rfl := keyD_ok ra e
    refine ⟨p, valV xs key, ey, .inl ⟨xs, key, hx, rfl, rfl⟩, ?_⟩
    rcases r.val (k := key) with ⟨e1, e2⟩ | ⟨v, d, e1, e2, _⟩
    · rw [e1]; rw [e2] at h; exact k _ M H _ (ResOk.same mok (.bl _)) h
    · rw [e1]; rw [e2] at h; exact k _ M H _ (ResOk.same mok (.bl _)) h
  | dit ds =>
    obtain ⟨key, e, h⟩ := some!_ok h
    obtain ⟨p, xs, ey, hx, r⟩ := rb.dit
    obtain ⟨b, rfl, hb⟩ := keyT_ok ra e
    refine ⟨p, valV xs key, ey, .inr ⟨xs, key, b, hx, rfl, hb, rfl⟩, ?_⟩
    rcases r.val (k := key) with ⟨e1, e2⟩ | ⟨v, d, e1, e2, _⟩
    · rw [e1]; rw [e2] at h; exact k _ M H _ (ResOk.same mok (.bl _)) h
    · rw [e1]; rw [e2] at h; exact k _ M H _ (ResOk.same mok (.bl _)) h
  | _ => exact h.elim
def fIxD : D → D → (RV → Prop) → Prop := fun b a q => match b with
  | .dic kvs => some! (keyD a) fun k => some! (valD kvs k) fun d => q (.d d)
  | .dit kvs => some! (keyT a) fun k => some! (valT kvs k) fun d => q (.d d)
  | _ => False
section
variable {X : Cx} {p : Amb} {W : WX} {a b c e : Expr} {ta tb tc te : ET} {pos : Pos}
theorem de_inD {k : Nat} (hr : Room k X.A) (ha : DE X p W a ta) (hb : DE X p W b tb) (hm : behindInMarks .In b = false := by rfl) : DE X p W (.Compare a [.In] [b] pos) (t2 (fInD false) ta tb) := de_cmp (op_inD (hu_of hr)) rInD_ok ha hb hm
theorem de_notinD {k : Nat} (hr : Room k X.A) (ha : DE X p W a ta) (hb : DE X p W b tb) (hm : behindInMarks .NotIn b = false := by rfl) : DE X p W (.Compare a [.NotIn] [b] pos) (t2 (fInD true) ta tb) := de_cmp (op_notinD (hu_of hr)) rInD_ok ha hb hm
theorem db_inD {k : Nat} (hr : Room k X.A) (ha : DE X p W a ta) (hb : DE X p W b tb) (hm : behindInMarks .In b = false := by rfl) : DB X p W (.Compare a [.In] [b] pos) (tT (t2 (fInD false) ta tb)) := db_cmp (op_inD (hu_of hr)) rInD_ok ha hb hm
theorem db_notinD {k : Nat} (hr : Room k X.A) (ha : DE X p W a ta) (hb : DE X p W b tb) (hm : behindInMarks .NotIn b = false := by rfl) : DB X p W (.Compare a [.NotIn] [b] pos) (tT (t2 (fInD true) ta tb)) := db_cmp (op_notinD (hu_of hr)) rInD_ok ha hb hm
/-- d[k] -/
theorem de_ixD {k : Nat} (hr : Room k X.A) (ha : DE X p W a ta) (hb : DE X p W b tb) (hs : NoSl b := by intro _ _; rfl) : DE X p W (.Subscript a b pos) (t2 fIxD ta tb) :=
  ⟨PE.imp (pe_dget (hu_of hr) ha.pe hb.pe hs) fun σ H Q h => t2_ok (r := fun x y H Q => ∃ a v, x = .ref a ∧ DGet H a y (some v) ∧ Q v H) (fun M H x y a b Q q mok ra rb h k => by
    cases a with
    | dic ds =>
      obtain ⟨key, e, h⟩ := some!_ok h
      obtain ⟨d, e2, h⟩ := some!_ok h
      obtain ⟨p, xs, ey, hx, r⟩ := ra.dic
      obtain rfl := keyD_ok rb e
      rcases r.val (k := key) with ⟨_, e3⟩ | ⟨v, d', e1, e3, rv⟩
      · rw [e3] at e2; cases e2
      · rw [e3] at e2
        cases e2
        exact ⟨p, v, ey, .inl ⟨xs, key, hx, rfl, e1.symm⟩, k _ M H _ (ResOk.same mok rv) h⟩
    | dit ds =>
      obtain ⟨key, e, h⟩ := some!_ok h
      obtain ⟨d, e2, h⟩ := some!_ok h
      obtain ⟨p, xs, ey, hx, r⟩ := ra.dit
      obtain ⟨b, rfl, hb⟩ := keyT_ok rb e
      rcases r.val (k := key) with ⟨_, e3⟩ | ⟨v, d', e1, e3, rv⟩
      · rw [e3] at e2; cases e2
      · rw [e3] at e2
        cases e2
        exact ⟨p, v, ey, .inr ⟨xs, key, b, hx, rfl, hb, e1.symm⟩, k _ M H _ (ResOk.same mok rv) h⟩
    | _ => exact h.elim) h⟩
/-- {} -/
def tDNew : ET := fun ρ q _ => q (.n (.dic [])) ρ
theorem de_dnew : DE X p W (.Dict [] [] pos) tDNew := ⟨PE.imp pe_dnewK fun σ H Q ⟨M, ρ, q, xq, S, ht, hq, hx⟩ => fun l hl => by
  obtain ⟨P, R⟩ := (ResOk.dic (K := X.K) (xs := []) (ds := []) S.mok hl .nil).fin S (Post.refl S)
  exact hq _ _ _ ρ _ P (Slots.refl ρ) R ht⟩
end
/-- d[k] = .., d the slot's own dict -/
def ownK (ρ : Ev) : RV → Option (Nat × List (Key × D))
  | .o i => match ownS ρ[i]? with
    | some (.dic xs) => some (i, xs)
    | _ => none
  | _ => none
theorem ownK_ok {ρ : Ev} {r : RV} {i : Nat} {xs : List (Key × D)} (h : ownK ρ r = some (i, xs)) : r = .o i ∧ ownS ρ[i]? = some (.dic xs) := by
  cases r with
  | o j =>
    unfold ownK at h
    simp only at h
    split at h
    · rename_i ys e
      cases h
      exact ⟨rfl, e⟩
    · cases h
  | _ => cases h
def keyR (ρ : Ev) (r : RV) : Option Key := (rd ρ r).bind keyD
def gSetD (to ti : ET) : GT := fun d ρ q => to ρ (fun r ρ1 => ti ρ1 (fun s ρ2 => some! (ownK ρ2 r) fun a => some! (keyR ρ2 s) fun k => a.2.length < sizeLine ∧ q (put a.1 (.dic (putD a.2 k d)) ρ2)) fun _ _ => False) fun _ _ => False
section
variable {X : Cx} {p : Amb} {W : WX} {pos : Pos}
theorem dg_setD {k : Nat} (hr : Room k X.A) {o i : Expr} {to ti : ET} (ho : DE X p (fun _ _ _ _ => False) o to) (hi : DE X p (fun _ _ _ _ => False) i ti)
    (ha : ∀ v, assign (.Subscript o i pos) X.env v = (do
      let ov ← holding [v] (eval o X.env)
      let iv ← holding [v, ov] (eval i X.env)
      standAt pos
      holding [v, ov, iv] (setItem ov iv v)
      release [v, ov, iv] []) := by intro _; rfl) : DG X p (.Subscript o i pos) [] (gSetD to ti) :=
  ⟨PG.imp (pg_sub ho.pe hi.pe (set_dict (hu_of hr)) ha) fun v σ H Q ⟨M, ρ, d, q, S, R, h, k⟩ => by
    refine ⟨M, ρ, _, _, S, h, fun vo M1 H1 ρ1 r1 P1 S1 R1 h1 => ?_, fun c M1 H1 ρ1 P1 h1 => h1⟩
    refine ⟨M1, ρ1, _, _, P1.sim, h1, fun vi M2 H2 ρ2 r2 P2 S2 R2 h2 => ?_, fun c M2 H2 ρ2 P2 h2 => h2⟩
    obtain ⟨⟨n, xs⟩, e1, h3⟩ := some!_ok h2
    obtain ⟨rfl, eo⟩ := ownK_ok e1
    obtain ⟨key, e2, hl, h5⟩ := some!_ok h3
    obtain ⟨dk, e3, e4⟩ := Option.bind_eq_some_iff.mp e2
    obtain ⟨a, hs1, m1, ⟨vs0, hv0, r0⟩, w1⟩ := own_at P2.sim eo
    obtain rfl : vo = .ref a := by
      have z := R1.1
      rw [hs1] at z
      cases z
      rfl
    have P12 := P1.trans S P2
    obtain rfl := keyD_ok (rd_ok P2.sim R2 e3) e4
    refine ⟨a, _, rfl, DPut.k hv0 (by rw [r0.length]; exact hl), ?_⟩
    have kk : Keep M2 H2 M2 (upd H2 a (.dK (putK vs0 key v))) := ⟨fun b w e n _ => ⟨.inl (by rw [upd_cold m1 n]; exact e), n⟩, fun b xs e => (upd_ne (fun z => by rw [z, hv0] at e; cases e)).trans e⟩
    have P4 := mut_ok P2.sim eo hs1 (o := .dK (putK vs0 key v)) (y := .dic (putD xs key d)) ⟨_, upd_same, (r0.keep kk).put ((R.keep (P12.keep S)).keep kk)⟩
    exact k _ _ _ _ (P12.trans S P4) ⟨rfl, fun _ _ => rfl⟩ h5⟩
end
/-! ### list(range(n)) -/
def fLRg : D → (RV → Prop) → Prop := fun d q => match d with
  | .int n => -(2 ^ 62) ≤ n ∧ n ≤ 16777216 ∧ q (.n (.lst (rngD 0 n.toNat)))
  | _ => False
theorem repL_rg {K : PySem.W.Frag} {M : Addr → Prop} {H : Hp} {n : Int} : RepL K M H (rgV 0 n) (rngD 0 n.toNat) := by
  unfold rgV rngD
  rw [Int.sub_zero]
  have : ∀ l : List Nat, RepL K M H (l.map fun i : Nat => V.int (0 + (i : Nat))) (l.map fun i : Nat => D.int (0 + (i : Int))) := fun l => by
    induction l with
    | nil => exact .nil
    | cons a l ih => exact .cons (.int _) ih
  exact this _
section
variable {X : Cx} {p : Amb} {W : WX} {a b c e : Expr} {ta tb tc te : ET} {pos pos' : Pos}
theorem de_lrg1 {p1 p2 q1 q2 : Pos} (hc : X.calm = true) (hm : X.mg "list" = none) (hm2 : X.mg "range" = none) (ha : DE X p W a ta) (hg : Gl X "list" := by rfl) (hg2 : Gl X "range" := by rfl)
    (na : starEach [a] X.env = (false, eval a X.env) :: starEach [] X.env := by rfl)
    (nb : starEach [.Call (.Name "range" p2) [a] [] q2] X.env = (false, eval (.Call (.Name "range" p2) [a] [] q2) X.env) :: starEach [] X.env := by rfl) :
    DE X p W (.Call (.Name "list" p1) [.Call (.Name "range" p2) [a] [] q2] [] q1) (t1 fLRg ta) :=
  ⟨PE.imp (pe_listRg hc hg hm (prg_1 hg2 hm2 ha.pe na) nb) fun σ H Q h => t1_ok (r := fun v H Q => ∃ n, v = .int n ∧ RgOk 0 n ∧ ∀ q, H q = none → Q (.ref q) (upd H q (.lst (rgV 0 n)))) (fun M H x d Q q mok ra h k => by
    cases d with
    | int n =>
      obtain ⟨h1, h2, h3⟩ := h
      exact ⟨n, ra.int, ⟨by decide, by decide, h1, by omega, by omega⟩, fun l hl => k _ _ _ _ (ResOk.lst mok hl repL_rg) h3⟩
    | _ => exact h.elim) h⟩
/-! ### xs.index(y) of a list -/
def isLst : Option D → Prop
  | some (.lst _) => True
  | some (.fz _) => True
  | _ => False
def fIndex : D → D → (RV → Prop) → Prop := fun a y q => match a with
  | .lst xs => flatD y = true ∧ xs.all flatD = true ∧ ∃ (j : Nat) (z : D), xs[j]? = some z ∧ eqF z y = true ∧ (∀ (m : Nat) (z' : D), m < j → xs[m]? = some z' → eqF z' y = false) ∧ q (.d (.int (j : Int)))
  | .fz xs => flatD y = true ∧ xs.all flatD = true ∧ ∃ (j : Nat) (z : D), xs[j]? = some z ∧ eqF z y = true ∧ (∀ (m : Nat) (z' : D), m < j → xs[m]? = some z' → eqF z' y = false) ∧ q (.d (.int (j : Int)))
  | _ => False
def tIndex (to te : ET) : ET := fun ρ q x => to ρ (fun r ρ1 => isLst (rd ρ1 r) ∧ te ρ1 (fun s ρ2 => f2 fIndex (rd ρ2 r) (rd ρ2 s) fun z => q z ρ2) x) x
theorem isLst_ty {K : PySem.W.Frag} {M : Addr → Prop} {H : Hp} {v : V} {d : Option D} (h : isLst d) (r : ∀ x, d = some x → RepC K M H v x) : tyV K "list" v H := by
  cases d with
  | none => exact h.elim
  | some d =>
    cases d with
    | lst ds =>
      obtain ⟨a, xs, rfl, hx, _⟩ := (r _ rfl).lst
      exact .inl ⟨rfl, xs, SqL.of hx⟩
    | fz ds =>
      obtain ⟨a, xs, rfl, hx, _⟩ := (r _ rfl).fz
      exact .inl ⟨rfl, xs, hx.sq⟩
    | _ => exact h.elim
theorem index_ok {K : PySem.W.Frag} : R2D K (fun x y H Q => rIndex K x [y] H Q) fIndex := by
  intro M H x y a b Q q mok ra rb h k
  have go : ∀ (p : Addr) (xs : List V) (ds : List D), x = .ref p → SqL K H p xs → RepL K M H xs ds → (flatD b = true ∧ ds.all flatD = true ∧ ∃ (j : Nat) (z : D), ds[j]? = some z ∧ eqF z b = true ∧ (∀ (m : Nat) (z' : D), m < j → ds[m]? = some z' → eqF z' b = false) ∧ q (.d (.int (j : Int)))) → rIndex K x [y] H Q := fun p xs ds ex hs r ⟨fb, fa, j, z, hz, ez, hno, hq⟩ => by
    obtain ⟨u, hu, ru⟩ := r.get hz
    refine ⟨p, xs, y, j, u, ex, rfl, hs, flat_repC rb fb, flat_repL r fa, hu, ?_, fun m z' hm hz' => ?_, k _ M H _ (ResOk.same mok (.int _)) hq⟩
    · rw [eqF_rep ru rb (List.all_eq_true.mp fa z (List.mem_of_getElem? hz)) fb]; exact ez
    · obtain ⟨d', hd', rd'⟩ := r.get' hz'
      rw [eqF_rep rd' rb (List.all_eq_true.mp fa d' (List.mem_of_getElem? hd')) fb]
      exact hno m d' hm hd'
  cases a with
  | lst ds =>
    obtain ⟨p, xs, ex, hx, r⟩ := ra.lst
    exact go p xs ds ex (SqL.of hx) r h
  | fz ds =>
    obtain ⟨p, xs, ex, hx, r⟩ := ra.fz
    exact go p xs ds ex hx.sq r h
  | _ => exact h.elim
theorem de_index {o e : Expr} {to te : ET} {apos cpos : Pos} (ho : DE X p W o to) (ha : DE X p W e te)
    (hbase : attributeBase o "index" X.env (eval o X.env) = eval o X.env := by rfl)
    (hfew : ((backTo cpos (starEach [e] X.env)).all (fun x => !x.1) && (backToKw cpos (keywordEach [] X.env)).all (fun x => x.1.isSome)
      && decide (([e] : List Expr).length + ([] : List Keyword).length + (if ([] : List Keyword).isEmpty then 0 else 1) < 30)) = true := by rfl)
    (hline : (apos.endLine == cpos.line) = true := by rfl) (hs : starEach [e] X.env = (false, eval e X.env) :: starEach [] X.env := by rfl) (hplain : (backTo cpos (starEach [] X.env)).any (·.1) = false := by rfl) :
    DE X p W (.Call (.Attribute o "index" apos) [e] [] cpos) (tIndex to te) :=
  ⟨PE.imp (pe_bm PySem.F.plainAttrs_list PySem.F.slot_list_index PySem.F.type_list_index mt_index ho.pe (pa_cons ha.pe pa_nil hs) hbase hfew hline hs hplain) fun σ H Q ⟨M, ρ, q, xq, S, ht, hq, hx⟩ => by
    refine ⟨M, ρ, _, _, S, ht, fun v M1 H1 ρ1 r1 P1 S1 R1 h1 => ?_, hx⟩
    obtain ⟨hty, h2⟩ := h1
    refine ⟨isLst_ty hty fun x ex => rd_ok P1.sim R1 ex, M1, ρ1, _, _, P1.sim, h2, fun u M2 H2 ρ2 r2 P2 S2 R2 h3 => ?_, fun c M2 H2 ρ2 P2 h3 => hx c M2 H2 ρ2 (P1.trans S P2) h3⟩
    obtain ⟨x, y, e1, e2, h4⟩ := f2_ok h3
    refine index_ok M2 H2 v u x y Q _ P2.sim.mok (rd_ok P2.sim (R1.post P1.sim P2 S2) e1) (rd_ok P2.sim R2 e2) h4 fun w M3 H3 z ok hz => ?_
    obtain ⟨P3, R3⟩ := ok.fin S (P1.trans S P2)
    exact hq w M3 H3 ρ2 z P3 (S1.trans S2) R3 hz⟩
end
/-! ### step by step -/
section
variable {ρ : Ev} {q : EK} {x : XQ} {q1 : RV → Prop} {xs : List D} {ds : List (Key × D)} {d y : D} {n : Nat} {i : Int} {neg : Bool}
theorem tDNew_ : tDNew ρ q x = q (.n (.dic [])) ρ := rfl
theorem gSetD_ {to ti : ET} {qg : Ev → Prop} : gSetD to ti d ρ qg = to ρ (fun r ρ1 => ti ρ1 (fun s ρ2 => some! (ownK ρ2 r) fun a => some! (keyR ρ2 s) fun k => a.2.length < sizeLine ∧ qg (put a.1 (.dic (putD a.2 k d)) ρ2)) fun _ _ => False) fun _ _ => False := rfl
theorem ownK_o : ownK ρ (.o n) = match ownS ρ[n]? with | some (.dic xs) => some (n, xs) | _ => none := rfl
theorem keyR_ {r : RV} : keyR ρ r = (rd ρ r).bind keyD := rfl
theorem keyD_i : keyD (.int i) = some (.inl i) := rfl
theorem keyD_s {z : Str} : keyD (.str z) = some (.inr z) := rfl
theorem fIn_l : fIn neg y (.lst xs) q1 = (flatD y = true ∧ xs.all flatD = true ∧ q1 (.d (.bl (neg ^^ inF y xs)))) := rfl
theorem fIn_t : fIn neg y (.tup xs) q1 = (flatD y = true ∧ xs.all flatD = true ∧ q1 (.d (.bl (neg ^^ inF y xs)))) := rfl
theorem fIn_st : fIn neg y (.st xs) q1 = (flatD y = true ∧ xs.all flatD = true ∧ q1 (.d (.bl (neg ^^ inF y xs)))) := rfl
theorem fIn_f : fIn neg y (.fz xs) q1 = (flatD y = true ∧ xs.all flatD = true ∧ q1 (.d (.bl (neg ^^ inF y xs)))) := rfl
theorem fInD_t {ds : List (List Key × D)} : fInD neg y (.dit ds) q1 = some! (keyT y) fun k => q1 (.d (.bl (neg ^^ (valT ds k).isSome))) := rfl
theorem fIxD_t {ds : List (List Key × D)} : fIxD (.dit ds) y q1 = some! (keyT y) fun k => some! (valT ds k) fun d => q1 (.d d) := rfl
theorem fInD_ : fInD neg y (.dic ds) q1 = some! (keyD y) fun k => q1 (.d (.bl (neg ^^ (valD ds k).isSome))) := rfl
theorem fIxD_ : fIxD (.dic ds) y q1 = some! (keyD y) fun k => some! (valD ds k) fun d => q1 (.d d) := rfl
theorem fLRg_ : fLRg (.int i) q1 = (-(2 ^ 62) ≤ i ∧ i ≤ 16777216 ∧ q1 (.n (.lst (rngD 0 i.toNat)))) := rfl
theorem tIndex_ {to te : ET} : tIndex to te ρ q x = to ρ (fun r ρ1 => isLst (rd ρ1 r) ∧ te ρ1 (fun s ρ2 => f2 fIndex (rd ρ2 r) (rd ρ2 s) fun z => q z ρ2) x) x := rfl
theorem isLst_l : isLst (some (.lst xs)) = True := rfl
theorem isLst_f : isLst (some (.fz xs)) = True := rfl
theorem fIndex_l : fIndex (.lst xs) y q1 = (flatD y = true ∧ xs.all flatD = true ∧ ∃ (j : Nat) (z : D), xs[j]? = some z ∧ eqF z y = true ∧ (∀ (m : Nat) (z' : D), m < j → xs[m]? = some z' → eqF z' y = false) ∧ q1 (.d (.int (j : Int)))) := rfl
theorem fSl_l {lo hi : Option Int} : fSl (.lst xs) lo hi q1 = q1 (.n (.lst (cutD xs lo hi))) := rfl
theorem fSl_t {lo hi : Option Int} : fSl (.tup xs) lo hi q1 = q1 (.d (.tup (cutD xs lo hi))) := rfl
theorem flatD_i : flatD (.int i) = true := rfl
theorem flatD_s {z : Str} : flatD (.str z) = true := rfl
theorem all_ints : ∀ (ns : List Int), (ns.map D.int).all flatD = true
  | [] => rfl
  | _ :: ns => by rw [List.map_cons, List.all_cons, all_ints ns]; rfl
/-- xs[:k] -/
theorem cutD_to {k : Nat} : cutD xs none (some (k : Int)) = xs.take k := by
  unfold cutD
  rw [HT.sIx_none, HT.sIx_nat, List.drop_zero, Nat.sub_zero]
  rcases Nat.le_total k xs.length with h | h
  · rw [Nat.min_eq_left h]
  · rw [Nat.min_eq_right h, List.take_of_length_le (Nat.le_refl _), List.take_of_length_le h]
/-- xs[k:] -/
theorem cutD_from {k : Nat} : cutD xs (some (k : Int)) none = xs.drop k := by
  unfold cutD
  rw [HT.sIx_none, HT.sIx_nat]
  rcases Nat.le_total k xs.length with h | h
  · rw [Nat.min_eq_left h, List.take_of_length_le (by rw [List.length_drop]; omega)]
  · rw [Nat.min_eq_right h, List.drop_of_length_le (Nat.le_refl _), List.drop_of_length_le h]
    rw [List.take_nil]
theorem inF_ints {i : Int} : ∀ (ns : List Int), inF (.int i) (ns.map D.int) = decide (i ∈ ns)
  | [] => by simp [inF]
  | a :: ns => by
    have ih := inF_ints (i := i) ns
    show (a == i || inF (.int i) (ns.map D.int)) = _
    rw [ih]
    by_cases e : i = a
    · subst e; simp
    · have : (a == i) = false := by simp; omega
      rw [this, Bool.false_or]
      simp [e]
end
end DL

set_option Elab.async false
set_option linter.all false
set_option maxRecDepth 100000
set_option maxHeartbeats 4000000
namespace DL
open PySem PySem.Spec PyProof.Rows L2
/-! ### texts -/
theorem tx_ext {a b : Str} (h : a.cps.toList = b.cps.toList) : a = b := by
  obtain ⟨x⟩ := a
  obtain ⟨y⟩ := b
  have h : x.toList = y.toList := h
  rw [Array.toList_inj] at h
  rw [h]
theorem tx_len (z : Str) : z.length = z.cps.toList.length := by
  show z.cps.size = _
  simp
/-- z * k -/
def repS (z : Str) (k : Nat) : Str := ⟨(List.replicate k z.cps.toList).flatten.toArray⟩
theorem foldl_reps (z : Array Nat) : ∀ (k : Nat) (acc : Array Nat), (List.replicate k z).foldl (· ++ ·) acc = (acc.toList ++ (List.replicate k z.toList).flatten).toArray
  | 0, acc => by simp
  | k + 1, acc => by
    rw [List.replicate_succ, List.foldl_cons, foldl_reps z k, List.replicate_succ, List.flatten_cons]
    simp
def rMulS : R2 := fun x y H Q => ∃ z k, x = .str z ∧ y = .int k ∧ z.length = 1 ∧ -(2 ^ 63) ≤ k ∧ k ≤ 16777216 ∧ Q (.str (repS z k.toNat)) H
theorem op_mulS {X : Cx} : OpR X (binaryOp .Mult) rMulS := by
  intro pins s σ H x y v u Q I rx ry h
  obtain ⟨z, k, rfl, rfl, hz, h1, h2, q⟩ := h
  obtain ⟨t, rfl⟩ := rx
  obtain ⟨t', rfl⟩ := ry
  have hl : (repS z k.toNat).length ≤ sizeLine := by
    show (repS z k.toNat).cps.size ≤ _
    have e : z.cps.toList.length = 1 := by rw [← tx_len]; exact hz
    rw [show (repS z k.toNat).cps.size = ((List.replicate k.toNat z.cps.toList).flatten).length by simp [repS]]
    rw [List.length_flatten, List.map_replicate, List.sum_replicate_nat, e, sizeLine_eq]
    omega
  refine PySem.P.mul_str (by rw [decide_eq_false (by omega), decide_eq_false (by omega)]; rfl) (fun a b => ?_) (fun a b => ?_) ?_
  · rw [hz]
    have : (1 : Int) ≤ (2 ^ 63 - 1) / k := by
      rw [Int.le_ediv_iff_mul_le (by omega)]
      omega
    omega
  · rw [hz, Nat.one_mul]
    show decide _ = false
    rw [sizeLine_eq]
    exact decide_eq_false (by omega)
  · by_cases hk : k < 1
    · rw [if_pos hk]
      have e : repS z k.toNat = Str.empty := by
        rw [show k.toNat = 0 by omega]
        rfl
      rw [e] at q
      exact ⟨Nat.zero_le _, ⟨.str Str.empty, H, I.tok _, ⟨_, rfl⟩, q⟩⟩
    · rw [if_neg hk]
      by_cases hk1 : (k == 1 || z.length == 0) = true
      · rw [if_pos hk1]
        have : k = 1 := by
          rw [hz] at hk1
          simpa using hk1
        subst this
        have e : repS z (Int.toNat 1) = z := tx_ext (by simp [repS])
        rw [e] at q
        exact ⟨.str z, H, I, ⟨_, rfl⟩, q⟩
      · rw [if_neg hk1, foldl_reps]
        have e : (⟨((#[] : Array Nat).toList ++ (List.replicate k.toNat z.cps.toList).flatten).toArray⟩ : Str) = repS z k.toNat := by
          simp [repS]
        rw [e]
        exact ⟨hl, ⟨.str _, H, I.tok _, ⟨_, rfl⟩, q⟩⟩
def fMulS : D → D → (RV → Prop) → Prop := fun a b q => match a, b with
  | .str z, .int k => z.length = 1 ∧ -(2 ^ 63) ≤ k ∧ k ≤ 16777216 ∧ q (.d (.str (repS z k.toNat)))
  | _, _ => False
theorem rMulS_ok {K : PySem.W.Frag} : R2D K rMulS fMulS := by
  intro M H x y a b Q q mok ra rb h k
  cases a with
  | str z =>
    cases b with
    | int j => exact ⟨z, j, ra.str, rb.int, h.1, h.2.1, h.2.2.1, k _ M H _ (ResOk.same mok (.str _)) h.2.2.2⟩
    | _ => exact h.elim
  | _ => exact h.elim
section
variable {X : Cx} {p : Amb} {W : WX} {a b c e tg : Expr} {ta tb tc te : ET} {pos pos' : Pos}
theorem de_mulS (ha : DE X p W a ta) (hb : DE X p W b tb) : DE X p W (.BinOp a .Mult b pos) (t2 fMulS ta tb) := de_op op_mulS rMulS_ok ha hb
/-- the signs of a text -/
def signs (z : Str) : List D := z.cps.toList.map fun c => .str ⟨#[c]⟩
def iStrD (te : ET) : IT := fun ρ q x => te ρ (fun r ρ1 => some! (settle ρ1 r) fun z => match z.1 with
  | .str s => q (signs s) z.2
  | _ => False) x
theorem it_str {K : PySem.W.Frag} {M : Addr → Prop} {H : Hp} (z : Str) : ItOk K M H (Its z) (signs z) := fun M' H' k mok => by
  have hs : z.cps.size = z.cps.toList.length := by simp
  refine ⟨fun i d hi => ?_, ?_⟩
  · unfold signs at hi
    rw [List.getElem?_map] at hi
    obtain ⟨c, hc, rfl⟩ := Option.map_eq_some_iff.mp hi
    have hl : i < z.cps.toList.length := (List.getElem?_eq_some_iff.mp hc).1
    refine ⟨show i < z.cps.size by omega, fun x H'' y => ?_⟩
    obtain ⟨e, c', hc', ex⟩ := y
    subst e ex
    have : c = c' := by
      rw [← Array.getElem?_toList, hc] at hc'
      exact Option.some.inj hc'
    subst this
    exact ⟨M', Step.refl, mok, .str _⟩
  · show z.cps.size ≤ (signs z).length
    rw [signs, List.length_map]
    omega
theorem di_str (he : DE X p W e te) : DI X p W tg e (iStrD te) := ⟨PI.imp (pi_str he.pe) fun σ H R ⟨M, ρ, q, xq, S, h, hq, hx⟩ => by
  refine ⟨M, ρ, _, _, S, h, fun v M1 H1 ρ1 r P1 S1 R1 h1 => ?_, hx⟩
  obtain ⟨⟨d, ρ2⟩, e1, h2⟩ := some!_ok h1
  obtain ⟨M2, P2, S2, R2⟩ := settleN_ok S P1 R1 e1
  cases R2 with
  | str z => exact ⟨z, rfl, hq _ M2 H1 ρ2 _ P2 (it_str z) h2⟩
  | _ => exact h2.elim⟩
end
/-! methods of texts -/
def isStr : Option D → Prop
  | some (.str _) => True
  | _ => False
theorem isStr_ty {K : PySem.W.Frag} {M : Addr → Prop} {H : Hp} {v : V} {d : Option D} (h : isStr d) (r : ∀ x, d = some x → RepC K M H v x) : tyV K "str" v H := by
  cases d with
  | none => exact h.elim
  | some d =>
    cases d with
    | str z =>
      rw [(r _ rfl).str]
      rfl
    | _ => exact h.elim
def tStrM (f : D → D → (RV → Prop) → Prop) (to te : ET) : ET := fun ρ q x => to ρ (fun r ρ1 => isStr (rd ρ1 r) ∧ te ρ1 (fun s ρ2 => f2 f (rd ρ2 r) (rd ρ2 s) fun z => q z ρ2) x) x
def fEndsW : D → D → (RV → Prop) → Prop := fun a b q => match a, b with
  | .str x, .str y => q (.d (.bl (Txt.endswith x y)))
  | _, _ => False
def fJoin : D → D → (RV → Prop) → Prop := fun a b q => match a, b with
  | .str x, .lst ds => ∃ ys : List Str, ds = ys.map D.str ∧ (ys.map (·.length)).sum + ys.length * x.length ≤ 16777216 ∧ q (.d (.str (Str.join x ys)))
  | _, _ => False
theorem repL_strs {K : PySem.W.Frag} {M : Addr → Prop} {H : Hp} : ∀ {vs : List V} {ys : List Str}, RepL K M H vs (ys.map D.str) → vs = ys.map V.str
  | _, [], .nil => rfl
  | _, y :: ys, .cons r t => by
    cases r
    rw [List.map_cons, repL_strs t]
section
variable {X : Cx} {p : Amb} {W : WX} {o e : Expr} {to te : ET} {apos cpos : Pos} {m : Str} {id : String} {f : D → D → (RV → Prop) → Prop} {r : V → List V → Hp → VK → Prop}
theorem de_strM (slot : Slot "str" m id) (hty : typeOf (.builtin id) = pure (.type "method_descriptor")) (hm : MtR X id r) (hr : R2D X.K (fun x y H Q => r x [y] H Q) f) (ho : DE X p W o to) (ha : DE X p W e te)
    (hbase : attributeBase o m X.env (eval o X.env) = eval o X.env := by rfl)
    (hfew : ((backTo cpos (starEach [e] X.env)).all (fun x => !x.1) && (backToKw cpos (keywordEach [] X.env)).all (fun x => x.1.isSome)
      && decide (([e] : List Expr).length + ([] : List Keyword).length + (if ([] : List Keyword).isEmpty then 0 else 1) < 30)) = true := by rfl)
    (hline : (apos.endLine == cpos.line) = true := by rfl) (hs : starEach [e] X.env = (false, eval e X.env) :: starEach [] X.env := by rfl) (hplain : (backTo cpos (starEach [] X.env)).any (·.1) = false := by rfl) :
    DE X p W (.Call (.Attribute o m apos) [e] [] cpos) (tStrM f to te) :=
  ⟨PE.imp (pe_bm PySem.F.plainAttrs_str slot hty hm ho.pe (pa_cons ha.pe pa_nil hs) hbase hfew hline hs hplain) fun σ H Q ⟨M, ρ, q, xq, S, ht, hq, hx⟩ => by
    refine ⟨M, ρ, _, _, S, ht, fun v M1 H1 ρ1 r1 P1 S1 R1 h1 => ?_, hx⟩
    obtain ⟨hty, h2⟩ := h1
    refine ⟨isStr_ty hty fun x ex => rd_ok P1.sim R1 ex, M1, ρ1, _, _, P1.sim, h2, fun u M2 H2 ρ2 r2 P2 S2 R2 h3 => ?_, fun c M2 H2 ρ2 P2 h3 => hx c M2 H2 ρ2 (P1.trans S P2) h3⟩
    obtain ⟨x, y, e1, e2, h4⟩ := f2_ok h3
    refine hr M2 H2 v u x y Q _ P2.sim.mok (rd_ok P2.sim (R1.post P1.sim P2 S2) e1) (rd_ok P2.sim R2 e2) h4 fun w M3 H3 z ok hz => ?_
    obtain ⟨P3, R3⟩ := ok.fin S (P1.trans S P2)
    exact hq w M3 H3 ρ2 z P3 (S1.trans S2) R3 hz⟩
end
theorem ends_ok {K : PySem.W.Frag} : R2D K (fun x y H Q => ∃ a b, x = .str a ∧ [y] = [V.str b] ∧ Q (.bl (Txt.endswith a b)) H) fEndsW := by
  intro M H x y a b Q q mok ra rb h k
  cases a with
  | str z =>
    cases b with
    | str w => exact ⟨z, w, ra.str, by rw [rb.str], k _ M H _ (ResOk.same mok (.bl _)) h⟩
    | _ => exact h.elim
  | _ => exact h.elim
theorem join_ok {K : PySem.W.Frag} : R2D K (fun x y H Q => ∃ a p, ∃ ys : List Str, x = .str a ∧ [y] = [V.ref p] ∧ (SqL K H p (ys.map V.str) ∨ SqT K H p (ys.map V.str)) ∧ (ys.map (·.length)).sum + ys.length * a.length ≤ 16777216 ∧ Q (.str (Txt.join a ys)) H) fJoin := by
  intro M H x y a b Q q mok ra rb h k
  cases a with
  | str z =>
    cases b with
    | lst ds =>
      obtain ⟨ys, rfl, hz, h⟩ := h
      obtain ⟨p, xs, rfl, hx, r⟩ := rb.lst
      rw [repL_strs r] at hx
      rw [← TL.join_eq] at h
      exact ⟨z, p, ys, ra.str, rfl, .inl (SqL.of hx), hz, k _ M H _ (ResOk.same mok (.str _)) h⟩
    | _ => exact h.elim
  | _ => exact h.elim
section
variable {X : Cx} {p : Amb} {W : WX} {o e : Expr} {to te : ET} {apos cpos : Pos}
theorem de_endswith (ho : DE X p W o to) (ha : DE X p W e te) (hbase : attributeBase o "endswith" X.env (eval o X.env) = eval o X.env := by rfl)
    (hfew : ((backTo cpos (starEach [e] X.env)).all (fun x => !x.1) && (backToKw cpos (keywordEach [] X.env)).all (fun x => x.1.isSome)
      && decide (([e] : List Expr).length + ([] : List Keyword).length + (if ([] : List Keyword).isEmpty then 0 else 1) < 30)) = true := by rfl)
    (hline : (apos.endLine == cpos.line) = true := by rfl) (hs : starEach [e] X.env = (false, eval e X.env) :: starEach [] X.env := by rfl) (hplain : (backTo cpos (starEach [] X.env)).any (·.1) = false := by rfl) :
    DE X p W (.Call (.Attribute o "endswith" apos) [e] [] cpos) (tStrM fEndsW to te) := de_strM PySem.F.slot_str_endswith PySem.F.type_str_endswith mt_endswith ends_ok ho ha hbase hfew hline hs hplain
theorem de_join (ho : DE X p W o to) (ha : DE X p W e te) (hbase : attributeBase o "join" X.env (eval o X.env) = eval o X.env := by rfl)
    (hfew : ((backTo cpos (starEach [e] X.env)).all (fun x => !x.1) && (backToKw cpos (keywordEach [] X.env)).all (fun x => x.1.isSome)
      && decide (([e] : List Expr).length + ([] : List Keyword).length + (if ([] : List Keyword).isEmpty then 0 else 1) < 30)) = true := by rfl)
    (hline : (apos.endLine == cpos.line) = true := by rfl) (hs : starEach [e] X.env = (false, eval e X.env) :: starEach [] X.env := by rfl) (hplain : (backTo cpos (starEach [] X.env)).any (·.1) = false := by rfl) :
    DE X p W (.Call (.Attribute o "join" apos) [e] [] cpos) (tStrM fJoin to te) := de_strM PySem.F.slot_str_join PySem.F.type_str_join mt_join join_ok ho ha hbase hfew hline hs hplain
/-- {x: c}, x a slot, c a whole number -/
def tDisp1 (i : Nat) (c : Int) : ET := fun ρ q _ => match ρ[i]? with
  | some (.va d) => some! (keyD d) fun k => q (.n (.dic [(k, .int c)])) ρ
  | _ => False
theorem de_disp1 (i : Nat) {x : Str} {c : Int} {j : Nat} {p1 p2 pos : Pos} (hN : X.N[i]? = some x := by rfl) (hv : Vis X.env.scope x := by first | exact Or.inl rfl | exact Or.inr (Or.inl rfl) | exact Or.inr (Or.inr rfl)) (hd : (x == ("__debug__" : Str)) = false := by decide)
    (hcd : (x == ("__classdict__" : Str)) = false := by decide) : DE X p W (.Dict [some (.Name x p1)] [.Constant (.int c) j p2] pos) (tDisp1 i c) :=
  ⟨PE.imp (pe_disp (pps_cons (pe_var hN hv hd hcd) pe_int pps_nil) rfl rfl (by simp) (Nat.le_add_left 1 14)) fun σ H Q ⟨M, ρ, q, xq, S, ht, hq, hx⟩ => fun l hl => by
    unfold tDisp1 at ht
    split at ht
    · rename_i d e
      obtain ⟨k, ek, h⟩ := some!_ok ht
      obtain ⟨v, es, rv⟩ := S.va i d e
      obtain rfl : v = kV k := keyD_ok (.inl rv) ek
      refine ⟨_, es, upd_same, [(k, .int c)], rfl, Nat.le_add_left 1 14, ?_⟩
      obtain ⟨P, R⟩ := (ResOk.dic (K := X.K) (xs := [(k, .int c)]) (ds := [(k, .int c)]) S.mok hl (.cons (.int c) .nil)).fin S (Post.refl S)
      have e2 : upd (upd H l (.dK [])) l (.dK (mergeK [] [(k, V.int c)])) = upd H l (.dK [(k, V.int c)]) := by
        funext z
        by_cases hz : z = l
        · rw [hz, upd_same, upd_same]
          rfl
        · rw [upd_ne hz, upd_ne hz, upd_ne hz]
      rw [e2]
      exact hq _ _ _ ρ _ P (Slots.refl ρ) R h
    · exact ht.elim⟩
end
/-! ### step by step -/
section
variable {ρ : Ev} {q : EK} {x : XQ} {q1 : RV → Prop} {xs : List D} {d y : D} {n : Nat} {i : Int} {a b : Str} {qi : List D → Ev → Prop}
theorem fMulS_ : fMulS (.str a) (.int i) q1 = (a.length = 1 ∧ -(2 ^ 63) ≤ i ∧ i ≤ 16777216 ∧ q1 (.d (.str (repS a i.toNat)))) := rfl
theorem iStrD_ {te : ET} : iStrD te ρ qi x = te ρ (fun r ρ1 => some! (settle ρ1 r) fun z => some! (match z.1 with | .str s => some s | _ => none) fun s => qi (signs s) z.2) x := by
  unfold iStrD
  congr 1
  funext r ρ1
  congr 1
  funext z
  obtain ⟨z1, z2⟩ := z
  cases z1 <;> rfl
theorem tStrM_ {f : D → D → (RV → Prop) → Prop} {to te : ET} : tStrM f to te ρ q x = to ρ (fun r ρ1 => isStr (rd ρ1 r) ∧ te ρ1 (fun s ρ2 => f2 f (rd ρ2 r) (rd ρ2 s) fun z => q z ρ2) x) x := rfl
theorem isStr_ : isStr (some (.str a)) = True := rfl
theorem fEndsW_ : fEndsW (.str a) (.str b) q1 = q1 (.d (.bl (Txt.endswith a b))) := rfl
theorem fJoin_ : fJoin (.str a) (.lst xs) q1 = ∃ ys : List Str, xs = ys.map D.str ∧ (ys.map (·.length)).sum + ys.length * a.length ≤ 16777216 ∧ q1 (.d (.str (Str.join a ys))) := rfl
theorem tDisp1_ {j : Nat} {c : Int} : tDisp1 j c ρ q x = some! (match ρ[j]? with | some (.va d) => keyD d | _ => none) fun k => q (.n (.dic [(k, .int c)])) ρ := by
  unfold tDisp1
  split <;> rfl
theorem fNe_s {z y : Str} : fNe (.str z) (.str y) q1 = (shD (.str z) ∧ shD (.str y) ∧ q1 (.d (.bl (!eqD (.str z) (.str y))))) := rfl
theorem fLen_s : fLen [.str a] q1 = (a.length ≤ sizeLine ∧ q1 (.d (.int (a.length : Int)))) := rfl
theorem fAdd_s : fAdd (.str a) (.str b) q1 = (a.length + b.length ≤ sizeLine ∧ q1 (.d (.str (a ++ b)))) := rfl
theorem fIx_s : fIx (.str a) (.int i) q1 = (a.length ≤ sizeLine ∧ some! (atI a.cps.toList i) fun c => q1 (.d (.str ⟨#[c]⟩))) := rfl
theorem fSl_s {lo hi : Option Int} : fSl (.str a) lo hi q1 = (a.length ≤ sizeLine ∧ q1 (.d (.str (cutS a lo hi)))) := rfl
end
end DL

set_option Elab.async false
set_option linter.all false
set_option maxRecDepth 100000
set_option maxHeartbeats 4000000
namespace DL
open PySem PySem.Spec PyProof.Rows L2
/-! ### sum, max, min of a list or a tuple of whole numbers; sorted; xs[::-1] -/
section
variable {prog : Program} {w : World} {A : Around} {E : Value → Shared → Prop} {s : Shared} {l : Addr} {xs : Array (Int × Tok)}
theorem iter_intTup {Q : Value → Shared → Prop} (hl : s.heap.IsTuple l (intItems xs))
    (h : ∀ s₂ : Shared, s₂ = { s with heap := s.heap.push { cls := .type "tuple_iterator", data := .fields #[.ref l, .int 0 0] } } →
      (s₂.heap.IsTupleIter s.heap.objs.size l 0 ∧ s₂.heap.IsTuple l (intItems xs)) → (∀ b ∈ [s.heap.objs.size, l], b < s₂.heap.objs.size) → l ≠ s.heap.objs.size → Q (.ref s.heap.objs.size) s₂) :
    wpAny (model prog w) A (pyIter (.ref l)) Q E s := by
  have hlt : l < s.heap.objs.size := by obtain ⟨_, e, _⟩ := hl; exact Heap.lt_size e
  refine wpAny_pyIter_tuple hl (h _ rfl ⟨⟨_, Heap.get?_push_size _ rfl, rfl, rfl⟩, ?_⟩ (fun b hb => ?_) (Nat.ne_of_lt hlt))
  · obtain ⟨o, e, r⟩ := hl
    exact ⟨o, Heap.get?_push_of_some _ e, r⟩
  · show b < (s.heap.push _).objs.size
    rw [Heap.size_push]
    rcases List.mem_cons.mp hb with rfl | hb
    · exact Nat.lt_succ_self _
    · rcases List.mem_cons.mp hb with rfl | hb
      · exact Nat.lt_succ_of_lt hlt
      · cases hb
theorem kept_tup {h' : Heap} (hk : ∀ b o, b ∉ [s.heap.objs.size] → (s.heap.push { cls := .type "tuple_iterator", data := .fields #[.ref l, .int 0 0] }).get? b = some o → h'.get? b = some o) :
    ∀ b o, s.heap.get? b = some o → h'.get? b = some o := fun b o e => by
  refine hk b o (fun hm => ?_) (Heap.get?_push_of_some _ e)
  rcases List.mem_cons.mp hm with e1 | hm
  · exact absurd (e1 ▸ Heap.lt_size e) (Nat.lt_irrefl _)
  · cases hm
variable {its : List Value} {ns : List Int} {Q : Value → Shared → Prop}
theorem sumT_raw (hh : A.handled = none) (hl : s.heap.IsTuple l its.toArray) (hi : IntsAre its ns)
    (h : ∀ h' tk t', (∀ b o, s.heap.get? b = some o → h'.get? b = some o) → Q (.int ns.sum t') { s with heap := h', toks := tk }) : wpAny (model prog w) A (call (.builtin "sum") [.ref l]) Q E s := by
  obtain ⟨xs, e⟩ := hi.allInts.items
  have hn : numsOf (intItems xs).toList = ns := by rw [← e]; exact hi.numsOf
  rw [nums_intItems] at hn
  rw [e] at hl
  refine call_sum_walkG (iter_intTup hl fun s₂ e st hfp hlI => ?_)
  subst e
  refine ⟨_, _, _, _, _, _, numAt xs, rfl, Walks.tuple (A := A.in1) hh _ l hlI (intItems xs), st, hfp, (fun _ _ => intItems_at), fun h' tk t' hk => ?_⟩
  have := h h' tk t' (kept_tup hk)
  rw [show (intItems xs).size = xs.size by simp [intItems], preSum_eq, List.take_of_length_le (by simp), hn]
  exact this
theorem maxT_raw (hh : A.handled = none) (hl : s.heap.IsTuple l its.toArray) (hi : IntsAre its ns) (hne : 0 < ns.length)
    (h : ∀ h' tk M t', (∀ b o, s.heap.get? b = some o → h'.get? b = some o) → M ∈ ns → (∀ a, a ∈ ns → a ≤ M) → Q (.int M t') { s with heap := h', toks := tk }) : wpAny (model prog w) A (call (.builtin "max") [.ref l]) Q E s := by
  obtain ⟨xs, e⟩ := hi.allInts.items
  have hn : numsOf (intItems xs).toList = ns := by rw [← e]; exact hi.numsOf
  rw [nums_intItems] at hn
  subst hn
  rw [e] at hl
  have hsz : 0 < xs.size := by simpa using hne
  refine call_max_walk (iter_intTup hl fun s₂ e st hfp hlI => ?_)
  subst e
  refine ⟨_, _, _, _, _, _, _, rfl, Walks.tuple (A := A.in1) hh _ l hlI (intItems xs), st, hfp, by simpa [intItems] using hsz, CmpOf.ints_gt (numAt xs) (fun _ _ => intItems_at), fun v h' tk hP hk => ?_⟩
  have hv : (intItems xs)[argBest (fun i j => decide (numAt xs i > numAt xs j)) (xs.size - 1)]? = some v := by simpa [intItems] using hP
  obtain ⟨t, rfl⟩ := intItems_at hv
  obtain ⟨h1, h2⟩ := argBest_gt (numAt xs) (xs.size - 1)
  refine h h' tk _ t (kept_tup hk) ?_ fun a ha => ?_
  · rw [numAt_eq]; exact PySem.getD_mem (by rw [List.length_map, Array.length_toList]; omega)
  · obtain ⟨j, hj, rfl⟩ := mem_getD ha
    rw [List.length_map, Array.length_toList] at hj
    rw [← numAt_eq]; exact h2 j (by omega)
theorem minT_raw (hh : A.handled = none) (hl : s.heap.IsTuple l its.toArray) (hi : IntsAre its ns) (hne : 0 < ns.length)
    (h : ∀ h' tk M t', (∀ b o, s.heap.get? b = some o → h'.get? b = some o) → M ∈ ns → (∀ a, a ∈ ns → M ≤ a) → Q (.int M t') { s with heap := h', toks := tk }) : wpAny (model prog w) A (call (.builtin "min") [.ref l]) Q E s := by
  obtain ⟨xs, e⟩ := hi.allInts.items
  have hn : numsOf (intItems xs).toList = ns := by rw [← e]; exact hi.numsOf
  rw [nums_intItems] at hn
  subst hn
  rw [e] at hl
  have hsz : 0 < xs.size := by simpa using hne
  refine call_min_walk (iter_intTup hl fun s₂ e st hfp hlI => ?_)
  subst e
  refine ⟨_, _, _, _, _, _, _, rfl, Walks.tuple (A := A.in1) hh _ l hlI (intItems xs), st, hfp, by simpa [intItems] using hsz, CmpOf.ints_lt (numAt xs) (fun _ _ => intItems_at), fun v h' tk hP hk => ?_⟩
  have hv : (intItems xs)[argBest (fun i j => decide (numAt xs i < numAt xs j)) (xs.size - 1)]? = some v := by simpa [intItems] using hP
  obtain ⟨t, rfl⟩ := intItems_at hv
  obtain ⟨h1, h2⟩ := argBest_lt (numAt xs) (xs.size - 1)
  refine h h' tk _ t (kept_tup hk) ?_ fun a ha => ?_
  · rw [numAt_eq]; exact PySem.getD_mem (by rw [List.length_map, Array.length_toList]; omega)
  · obtain ⟨j, hj, rfl⟩ := mem_getD ha
    rw [List.length_map, Array.length_toList] at hj
    rw [← numAt_eq]; exact h2 j (by omega)
end
/-- a row of whole numbers -/
def SqI (K : PySem.W.Frag) (H : Hp) (a : Addr) (ns : List Int) : Prop := SqL K H a (ns.map V.int) ∨ SqT K H a (ns.map V.int)
def rSumA (K : PySem.W.Frag) : List V → Hp → VK → Prop := fun vs H Q => ∃ (a : Addr) (ns : List Int), vs = [V.ref a] ∧ SqI K H a ns ∧ Q (.int ns.sum) H
def rMaxA (K : PySem.W.Frag) : List V → Hp → VK → Prop := fun vs H Q => ∃ (a : Addr) (ns : List Int), vs = [V.ref a] ∧ SqI K H a ns ∧ 0 < ns.length ∧ ∀ m, m ∈ ns → (∀ y, y ∈ ns → y ≤ m) → Q (.int m) H
def rMinA (K : PySem.W.Frag) : List V → Hp → VK → Prop := fun vs H Q => ∃ (a : Addr) (ns : List Int), vs = [V.ref a] ∧ SqI K H a ns ∧ 0 < ns.length ∧ ∀ m, m ∈ ns → (∀ y, y ∈ ns → m ≤ y) → Q (.int m) H
section
variable {X : Cx}
theorem cr_sumA (hc : X.calm = true) : CallR X (.builtin "sum") (rSumA X.K) := by
  intro pins s σ H vs us Q I r h
  obtain ⟨a, ns, rfl, hs, q⟩ := h
  rw [Vals.ref1 r]
  rcases hs with hs | hs
  · obtain ⟨its, rv, hl, _⟩ := I.list hs
    exact sum_raw (I.ok.hd hc) hl.isList rv.ints fun h' tk t' hk => ⟨.int _, H, I.kept hk, ⟨_, rfl⟩, q⟩
  · obtain ⟨its, rv, hl, _⟩ := I.tuple hs
    exact sumT_raw (I.ok.hd hc) hl rv.ints fun h' tk t' hk => ⟨.int _, H, I.kept hk, ⟨_, rfl⟩, q⟩
theorem cr_maxA (hc : X.calm = true) : CallR X (.builtin "max") (rMaxA X.K) := by
  intro pins s σ H vs us Q I r h
  obtain ⟨a, ns, rfl, hs, hne, q⟩ := h
  rw [Vals.ref1 r]
  rcases hs with hs | hs
  · obtain ⟨its, rv, hl, _⟩ := I.list hs
    exact max_raw (I.ok.hd hc) hl.isList rv.ints hne fun h' tk m t' hk h1 h2 => ⟨.int _, H, I.kept hk, ⟨_, rfl⟩, q m h1 h2⟩
  · obtain ⟨its, rv, hl, _⟩ := I.tuple hs
    exact maxT_raw (I.ok.hd hc) hl rv.ints hne fun h' tk m t' hk h1 h2 => ⟨.int _, H, I.kept hk, ⟨_, rfl⟩, q m h1 h2⟩
theorem cr_minA (hc : X.calm = true) : CallR X (.builtin "min") (rMinA X.K) := by
  intro pins s σ H vs us Q I r h
  obtain ⟨a, ns, rfl, hs, hne, q⟩ := h
  rw [Vals.ref1 r]
  rcases hs with hs | hs
  · obtain ⟨its, rv, hl, _⟩ := I.list hs
    exact min_raw (I.ok.hd hc) hl.isList rv.ints hne fun h' tk m t' hk h1 h2 => ⟨.int _, H, I.kept hk, ⟨_, rfl⟩, q m h1 h2⟩
  · obtain ⟨its, rv, hl, _⟩ := I.tuple hs
    exact minT_raw (I.ok.hd hc) hl rv.ints hne fun h' tk m t' hk h1 h2 => ⟨.int _, H, I.kept hk, ⟨_, rfl⟩, q m h1 h2⟩
end
/-! over data -/
def rowI : D → Option (List D)
  | .lst ds => some ds
  | .tup ds => some ds
  | .st ds => some ds
  | .fz ds => some ds
  | _ => none
def fSumA : List D → (RV → Prop) → Prop := fun ds q => match ds with
  | [d] => some! (rowI d) fun xs => ∃ ns : List Int, xs = ns.map D.int ∧ q (.d (.int ns.sum))
  | _ => False
def fMaxA : List D → (RV → Prop) → Prop := fun ds q => match ds with
  | [d] => some! (rowI d) fun xs => ∃ ns : List Int, xs = ns.map D.int ∧ 0 < ns.length ∧ ∀ m, m ∈ ns → (∀ y, y ∈ ns → y ≤ m) → q (.d (.int m))
  | _ => False
def fMinA : List D → (RV → Prop) → Prop := fun ds q => match ds with
  | [d] => some! (rowI d) fun xs => ∃ ns : List Int, xs = ns.map D.int ∧ 0 < ns.length ∧ ∀ m, m ∈ ns → (∀ y, y ∈ ns → m ≤ y) → q (.d (.int m))
  | _ => False
theorem sqI_of {K : PySem.W.Frag} {M : Addr → Prop} {H : Hp} {v : V} {d : D} {ns : List Int} (r : RepC K M H v d) (h : rowI d = some (ns.map D.int)) : ∃ a, v = .ref a ∧ SqI K H a ns := by
  cases d with
  | lst ds =>
    cases h
    obtain ⟨a, xs, rfl, hx, t⟩ := r.lst
    rw [t.ints] at hx
    exact ⟨a, rfl, .inl (SqL.of hx)⟩
  | tup ds =>
    cases h
    obtain ⟨a, xs, rfl, hx, t⟩ := r.tup
    rw [t.ints] at hx
    exact ⟨a, rfl, .inr hx.sq⟩
  | st ds =>
    cases h
    obtain ⟨a, xs, rfl, hx, t⟩ := r.st
    rw [t.ints] at hx
    exact ⟨a, rfl, .inr (SqTS.sq hx)⟩
  | fz ds =>
    cases h
    obtain ⟨a, xs, rfl, hx, t⟩ := r.fz
    rw [t.ints] at hx
    exact ⟨a, rfl, .inl hx.sq⟩
  | _ => cases h
theorem sumA_ok {K : PySem.W.Frag} : RCD K (rSumA K) fSumA := by
  intro M H vs ds Q q mok r h k
  unfold fSumA at h
  split at h
  · obtain ⟨v, rfl, s⟩ := r.one
    obtain ⟨xs, e, ns, rfl, h⟩ := some!_ok h
    obtain ⟨a, rfl, hs⟩ := sqI_of s e
    exact ⟨a, ns, rfl, hs, k _ M H _ (ResOk.same mok (.int _)) h⟩
  · exact h.elim
theorem maxA_ok {K : PySem.W.Frag} : RCD K (rMaxA K) fMaxA := by
  intro M H vs ds Q q mok r h k
  unfold fMaxA at h
  split at h
  · obtain ⟨v, rfl, s⟩ := r.one
    obtain ⟨xs, e, ns, rfl, hn, h⟩ := some!_ok h
    obtain ⟨a, rfl, hs⟩ := sqI_of s e
    exact ⟨a, ns, rfl, hs, hn, fun m h1 h2 => k _ M H _ (ResOk.same mok (.int _)) (h m h1 h2)⟩
  · exact h.elim
theorem minA_ok {K : PySem.W.Frag} : RCD K (rMinA K) fMinA := by
  intro M H vs ds Q q mok r h k
  unfold fMinA at h
  split at h
  · obtain ⟨v, rfl, s⟩ := r.one
    obtain ⟨xs, e, ns, rfl, hn, h⟩ := some!_ok h
    obtain ⟨a, rfl, hs⟩ := sqI_of s e
    exact ⟨a, ns, rfl, hs, hn, fun m h1 h2 => k _ M H _ (ResOk.same mok (.int _)) (h m h1 h2)⟩
  · exact h.elim
/-- sorted, a list of whole numbers -/
def fSorted : List D → (RV → Prop) → Prop := fun ds q => match ds with
  | [.lst xs] => ∃ ns : List Int, xs = ns.map D.int ∧ ∀ ns' : List Int, ns'.Perm ns → ns'.Pairwise (· ≤ ·) → q (.n (.lst (ns'.map .int)))
  | _ => False
theorem sorted_ok {K : PySem.W.Frag} : RCD K (rSortedI K) fSorted := by
  intro M H vs ds Q q mok r h k
  unfold fSorted at h
  split at h
  · obtain ⟨v, rfl, s⟩ := r.one
    obtain ⟨ns, rfl, h⟩ := h
    obtain ⟨a, xs, rfl, hx, t⟩ := s.lst
    rw [t.ints] at hx
    exact ⟨a, ns, rfl, SqL.of hx, fun ns' p h1 h2 hp => k _ _ _ _ (ResOk.lst mok hp (RepL.of_ints _)) (h ns' h1 h2)⟩
  · exact h.elim
section
variable {X : Cx} {p : Amb} {W : WX} {a : Expr} {ta : ET} {pos pos' : Pos}
theorem de_sumA (hc : X.calm = true) (hm : X.mg "sum" = none) (ha : DE X p W a ta) (hg : Gl X "sum" := by rfl) (he : starEach [a] X.env = (false, eval a X.env) :: starEach [] X.env := by rfl) : DE X p W (.Call (.Name "sum" pos') [a] [] pos) (tC' fSumA (aCons ta aNil)) := de_callB (cr_sumA hc) sumA_ok hg hm (by decide +kernel) (da_cons ha da_nil he) (by decide) (by decide) he rfl
theorem de_maxA (hc : X.calm = true) (hm : X.mg "max" = none) (ha : DE X p W a ta) (hg : Gl X "max" := by rfl) (he : starEach [a] X.env = (false, eval a X.env) :: starEach [] X.env := by rfl) : DE X p W (.Call (.Name "max" pos') [a] [] pos) (tC' fMaxA (aCons ta aNil)) := de_callB (cr_maxA hc) maxA_ok hg hm (by decide +kernel) (da_cons ha da_nil he) (by decide) (by decide) he rfl
theorem de_minA (hc : X.calm = true) (hm : X.mg "min" = none) (ha : DE X p W a ta) (hg : Gl X "min" := by rfl) (he : starEach [a] X.env = (false, eval a X.env) :: starEach [] X.env := by rfl) : DE X p W (.Call (.Name "min" pos') [a] [] pos) (tC' fMinA (aCons ta aNil)) := de_callB (cr_minA hc) minA_ok hg hm (by decide +kernel) (da_cons ha da_nil he) (by decide) (by decide) he rfl
theorem de_sorted (hm : X.mg "sorted" = none) (ha : DE X p W a ta) (hg : Gl X "sorted" := by rfl) (he : starEach [a] X.env = (false, eval a X.env) :: starEach [] X.env := by rfl) : DE X p W (.Call (.Name "sorted" pos') [a] [] pos) (tC' fSorted (aCons ta aNil)) := de_callB cr_sortedI sorted_ok hg hm (by decide +kernel) (da_cons ha da_nil he) (by decide) (by decide) he rfl
/-- xs[::-1], a list -/
theorem de_rev1 {k : Nat} {p1 p2 p3 : Pos} (ha : DE X p W a ta) : DE X p W (.Subscript a (.Slice none none (some (.UnaryOp .USub (.Constant (.int 1) k p1) p2)) p3) pos) (t1 fLRev ta) :=
  ⟨PE.imp (pe_revL ha.pe) fun σ H Q h => t1_ok (r := fun v H1 Q => ∃ (a : Addr) (xs : List V), v = .ref a ∧ SqL X.K H1 a xs ∧ ∀ q, H1 q = none → Q (.ref q) (upd H1 q (.lst xs.reverse))) (fun M H x a Q q mok ra h k => by
    cases a with
    | lst ds =>
      obtain ⟨b, xs, e, hx, r⟩ := ra.lst
      exact ⟨b, xs, e, SqL.of hx, fun l hl => k _ _ _ _ (ResOk.lst mok hl r.rev) h⟩
    | _ => exact h.elim) h⟩
end
section
variable {xs : List D} {q : RV → Prop} {d : D}
theorem fSumA_ : fSumA [d] q = some! (rowI d) fun xs => ∃ ns : List Int, xs = ns.map D.int ∧ q (.d (.int ns.sum)) := rfl
theorem fMaxA_ : fMaxA [d] q = some! (rowI d) fun xs => ∃ ns : List Int, xs = ns.map D.int ∧ 0 < ns.length ∧ ∀ m, m ∈ ns → (∀ y, y ∈ ns → y ≤ m) → q (.d (.int m)) := rfl
theorem fMinA_ : fMinA [d] q = some! (rowI d) fun xs => ∃ ns : List Int, xs = ns.map D.int ∧ 0 < ns.length ∧ ∀ m, m ∈ ns → (∀ y, y ∈ ns → m ≤ y) → q (.d (.int m)) := rfl
theorem fSorted_ : fSorted [.lst xs] q = ∃ ns : List Int, xs = ns.map D.int ∧ ∀ ns' : List Int, ns'.Perm ns → ns'.Pairwise (· ≤ ·) → q (.n (.lst (ns'.map .int))) := rfl
theorem rowI_l : rowI (.lst xs) = some xs := rfl
theorem rowI_t : rowI (.tup xs) = some xs := rfl
theorem rowI_st : rowI (.st xs) = some xs := rfl
theorem rowI_f : rowI (.fz xs) = some xs := rfl
end
end DL

set_option Elab.async false
set_option linter.all false
set_option maxRecDepth 100000
set_option maxHeartbeats 4000000
namespace DL
open PySem PySem.Spec PyProof.Rows L2
section
variable {prog : Program} {w : World} {A : Around} {E : Value → Shared → Prop} {s : Shared}
theorem collect_tup {l : Addr} {vs : List Value} {Q : List Value → Shared → Prop} (hl : s.heap.IsTuple l vs.toArray)
    (h : Q vs { s with heap := (s.heap.push (seqObj "list" #[] 0)).update s.heap.objs.size (Obj.mapSeq (· ++ vs.toArray)) }) (hsz : vs.length ≤ sizeLine) :
    wpAny (model prog w) A (collect (.ref l)) Q E s := by
  obtain ⟨o, ho, hc, n, hd⟩ := id hl
  unfold collect
  refine wpAny_bind (wpAny_runValue (codeAny_builtin entry_proto_collect' ?_))
  show wpAny _ _ (do again (.builtin "list.__iadd__" ⟨[← newList [], .ref l], []⟩)) _ _ s
  refine wpAny_bind (wpAny_newList (wpAny_pure ⟨Code.quiet_builtin _ (by decide +kernel), codeAny_builtin entry_list_iadd' ?_⟩))
  show wpAny _ _ (Builtin.List.listExtendWith (.ref s.heap.objs.size) (.ref l) (.ref s.heap.objs.size)) _ _ { s with heap := s.heap.push (seqObj "list" #[] 0) }
  unfold Builtin.List.listExtendWith
  have ho' : (s.heap.push (seqObj "list" #[] 0)).get? l = some o := Heap.get?_push_of_some _ ho
  refine wpAny_bind (wpAny_typeOf (T := "tuple") ⟨o, ho', hc⟩ ?_)
  rw [if_pos (by rw [show (Value.type "tuple" == Value.type "tuple") = true from rfl]; simp)]
  refine wpAny_bind (listItems_at ho' hd ?_)
  refine wpAny_bind (listItems_at (xs := #[]) (n := 0) (Heap.get?_push_size _ rfl) rfl ?_)
  rw [if_neg (by simp)]
  refine wpAny_bind (listUpdate_at (xs := #[]) (n := 0) (Heap.get?_push_size _ rfl) rfl ?_ (Nat.zero_le _) (by show (#[] ++ vs.toArray).size ≤ sizeLine + 1; simp only [Array.size_append, List.size_toArray, List.length_nil]; omega))
  refine wpAny_pure ?_
  show wpAny (model prog w) A (do
      let o ← load s.heap.objs.size
      match o.data with
      | .seq xs _ => pure xs.toList
      | _ => unsupported "internal:collect") Q E { s with heap := (s.heap.push (seqObj "list" #[] 0)).update s.heap.objs.size (Obj.mapSeq (· ++ vs.toArray)) }
  refine wpAny_bind (wpAny_load (get?_update_seq (Heap.get?_push_size _ rfl) _) ?_)
  show wpAny _ _ (pure ((#[] : Array Value) ++ vs.toArray).toList) Q E _
  rw [show ((#[] : Array Value) ++ vs.toArray).toList = vs by simp]
  exact wpAny_pure h
theorem sortedT_ints {l : Addr} {vs : List Value} {ns : List Int} {Q : Value → Shared → Prop} (hl : s.heap.IsTuple l vs.toArray) (hi : IntsAre vs ns) (hz : vs.length ≤ sizeLine)
    (h : ∀ (out : List Value) (ns' : List Int), IntsAre out ns' → ns'.Perm ns → ns'.Pairwise (· ≤ ·) → Q (.ref (s.heap.objs.size + 1)) { s with heap := sortedAll s.heap vs out.toArray }) :
    wpAny (model prog w) A (call (.builtin "sorted") [.ref l]) Q E s := by
  refine Calls.call_function_entry kind_sorted plain_sorted entry_sorted (args_sorted1 _) ?_
  unfold Builtin.«sorted»
  refine wpAny_bind (m := checkCount "sorted" 1 1 _) (wpAny_pure ?_)
  refine wpAny_bind (collect_tup hl ?_ hz)
  refine wpAny_bind (wpAny_newList ?_ hz)
  have hsz : ((s.heap.push (seqObj "list" #[] 0)).update s.heap.objs.size (Obj.mapSeq (· ++ vs.toArray))).objs.size = s.heap.objs.size + 1 := by
    rw [Heap.size_update, size_push']
  have hoL : (((s.heap.push (seqObj "list" #[] 0)).update s.heap.objs.size (Obj.mapSeq (· ++ vs.toArray))).push (seqObj "list" vs.toArray 0)).get? (s.heap.objs.size + 1) = some (seqObj "list" vs.toArray 0) := by
    rw [← hsz]; exact Heap.get?_push_size _ rfl
  show wpAny _ _ _ _ _ { s with heap := ((s.heap.push (seqObj "list" #[] 0)).update s.heap.objs.size (Obj.mapSeq (· ++ vs.toArray))).push (seqObj "list" vs.toArray 0) }
  rw [hsz]
  refine wpAny_bind (wpAny_holding (wpAny_call_entry slot_list_sort ⟨_, hoL, rfl⟩ entry_list_sort (SrtO.list_sort_ord SrtO.swo_int hoL hz (fun h2 => SrtO.ints_sortable hi h2) fun out hs hb => ⟨_, rfl, ?_⟩) (args_list_sort _)))
  obtain ⟨k1, k2, k3⟩ := SrtO.ints_out hi hs hb
  exact wpAny_pure ⟨_, rfl, h out _ k1 k2 k3⟩
end
/-- sorted, a list or a tuple of whole numbers -/
def rSortedA (K : PySem.W.Frag) : List V → Hp → VK → Prop := fun vs H Q => ∃ (a : Addr) (ns : List Int), vs = [V.ref a] ∧ SqT K H a (ns.map V.int) ∧
  ∀ (ns' : List Int) (p : Addr), ns'.Perm ns → ns'.Pairwise (· ≤ ·) → H p = none → Q (.ref p) (upd H p (.lst (ns'.map V.int)))
theorem cr_sortedT {X : Cx} : CallR X (.builtin "sorted") (rSortedA X.K) := by
  intro pins s σ H vs us Q I r h
  obtain ⟨a, ns, rfl, hs, q⟩ := h
  obtain ⟨its, rv, hl, hz⟩ := I.tuple hs
  rw [Vals.ref1 r]
  have hz2 : its.length ≤ sizeLine := by rw [← rv.length]; exact hz
  refine sortedT_ints hl rv.ints hz2 fun out ns' k1 k2 k3 => ?_
  obtain ⟨ep, he'⟩ := PyProof.Rows.sortedAll_at s.heap its out.toArray
  have hlen : (ns'.map V.int).length ≤ sizeLine := by
    rw [List.length_map, k2.length_eq]
    rw [List.length_map] at hz
    exact hz
  exact ⟨.ref _, upd H (s.heap.objs.size + 1) (.lst (ns'.map V.int)), I.laid (t' := s.toks) (fun _ _ => PyProof.Rows.sortedAll_old) (Nat.le_succ _) ⟨hlen, out, ep, vals_of_ints k1, he'⟩, rfl, q _ _ k2 k3 (I.hok.fresh (Nat.le_succ _))⟩
def fSortedT : List D → (RV → Prop) → Prop := fun ds q => match ds with
  | [.tup xs] => ∃ ns : List Int, xs = ns.map D.int ∧ ∀ ns' : List Int, ns'.Perm ns → ns'.Pairwise (· ≤ ·) → q (.n (.lst (ns'.map .int)))
  | _ => False
theorem sortedT_ok {K : PySem.W.Frag} : RCD K (rSortedA K) fSortedT := by
  intro M H vs ds Q q mok r h k
  unfold fSortedT at h
  split at h
  · obtain ⟨v, rfl, s⟩ := r.one
    obtain ⟨ns, rfl, h⟩ := h
    obtain ⟨a, xs, rfl, hx, t⟩ := s.tup
    rw [t.ints] at hx
    exact ⟨a, ns, rfl, hx.sq, fun ns' p h1 h2 hp => k _ _ _ _ (ResOk.lst mok hp (RepL.of_ints _)) (h ns' h1 h2)⟩
  · exact h.elim
/-- enumerate of a list -/
def enumD (ds : List D) : List D := ds.zipIdx.map fun p => .tup [.int (p.2 : Nat), p.1]
theorem enumD_get {ds : List D} {i : Nat} {d : D} (h : (enumD ds)[i]? = some d) : ∃ x, ds[i]? = some x ∧ d = .tup [.int (i : Nat), x] := by
  unfold enumD at h
  rw [List.getElem?_map, List.getElem?_zipIdx] at h
  cases e : ds[i]? with
  | none => rw [e] at h; cases h
  | some x =>
    rw [e] at h
    cases h
    exact ⟨x, rfl, by rw [Nat.zero_add]⟩
theorem enumD_len (ds : List D) : (enumD ds).length = ds.length := by simp [enumD]
def iEnumD (te : ET) : IT := fun ρ q x => te ρ (fun r ρ1 => some! (settle ρ1 r) fun z => match z.1 with
  | .lst ds => q (enumD ds) z.2
  | _ => False) x
theorem it_enum {K : PySem.W.Frag} {M : Addr → Prop} {H : Hp} {a : Addr} {vs : List V} {ds : List D} (ho : H a = some (.lst vs)) (n : ¬ M a) (r : RepL K M H vs ds) : ItOk K M H (Ite K a) (enumD ds) := fun M' H' k mok => by
  have h1 : SqL K H' a vs := SqL.of ((k.c a _ ho n (fun _ z => nomatch z)).1.eq fun z => z)
  refine ⟨fun i d hi => ?_, vs, h1, by rw [enumD_len, r.length]; exact Nat.le_refl _⟩
  obtain ⟨x, hx, rfl⟩ := enumD_get hi
  obtain ⟨u, eu, ru⟩ := r.get hx
  refine ⟨⟨vs, u, h1, eu⟩, fun v H'' y => ?_⟩
  obtain ⟨T, x', rfl, hT, rfl, f⟩ := y
  have eq : x' = u := Option.some.inj ((f vs h1).symm.trans eu)
  subst eq
  have ok := ResOk.tup (K := K) (xs := [.int (i : Nat), x']) (ds := [.int (i : Nat), x]) mok hT (.cons (.int _) (.cons (ru.keep k) .nil))
  exact ⟨M', ok.step, ok.mok, ok.res⟩
section
variable {X : Cx} {p : Amb} {W : WX} {a : Expr} {ta : ET} {pos pos' tpos : Pos} {elts : List Expr} {kk : Nat}
theorem de_sortedT (hm : X.mg "sorted" = none) (ha : DE X p W a ta) (hg : Gl X "sorted" := by rfl) (he : starEach [a] X.env = (false, eval a X.env) :: starEach [] X.env := by rfl) : DE X p W (.Call (.Name "sorted" pos') [a] [] pos) (tC' fSortedT (aCons ta aNil)) := de_callB cr_sortedT sortedT_ok hg hm (by decide +kernel) (da_cons ha da_nil he) (by decide) (by decide) he rfl
theorem di_enum (hm : X.mg "enumerate" = none) (ha : DE X p W a ta) (hg : Gl X "enumerate" := by rfl) (hs : starEach [a] X.env = [(false, eval a X.env)] := by rfl) (hs2 : starEach [a] X.env = (false, eval a X.env) :: starEach [] X.env := by rfl) : DI X p W (.Tuple elts kk tpos) (.Call (.Name "enumerate" pos') [a] [] pos) (iEnumD ta) :=
  ⟨PI.imp (pi_enum hg hm (pa_cons ha.pe pa_nil hs2) hs) fun σ H R ⟨M, ρ, q, xq, S, h, hq, hx⟩ => by
    refine ⟨M, ρ, _, _, S, h, fun v M1 H1 ρ1 r P1 S1 R1 h1 => ?_, hx⟩
    obtain ⟨⟨d, ρ2⟩, e1, h2⟩ := some!_ok h1
    obtain ⟨M2, P2, S2, R2⟩ := settleN_ok S P1 R1 e1
    cases d with
    | lst ds =>
      cases R2 with
      | @lst a vs _ ho n r => exact ⟨a, vs, rfl, SqL.of ho, hq _ M2 H1 ρ2 _ P2 (it_enum ho n r) h2⟩
    | _ => exact h2.elim⟩
end
section
variable {ρ : Ev} {x : XQ} {xs : List D} {q : RV → Prop} {qi : List D → Ev → Prop} {te : ET}
theorem fSortedT_ : fSortedT [.tup xs] q = ∃ ns : List Int, xs = ns.map D.int ∧ ∀ ns' : List Int, ns'.Perm ns → ns'.Pairwise (· ≤ ·) → q (.n (.lst (ns'.map .int))) := rfl
theorem iEnumD_ : iEnumD te ρ qi x = te ρ (fun r ρ1 => some! (settle ρ1 r) fun z => some! (match z.1 with | .lst ds => some ds | _ => none) fun ds => qi (enumD ds) z.2) x := by
  unfold iEnumD
  congr 1
  funext r ρ1
  congr 1
  funext z
  obtain ⟨z1, z2⟩ := z
  cases z1 <;> rfl
end
/-! list(range(a, b, c)) -/
def tLRg3V (ta : TA) : TE := fun σ H Q => ta σ H fun vs H1 => ∃ (i j c : Int) (n : Nat), vs = [.int i, .int j, .int c] ∧ RgC i j c n ∧ n ≤ 2 ^ 24 ∧ ∀ q, H1 q = none → Q (.ref q) (upd H1 q (.lst ((List.range n).map fun k : Nat => V.int (i + (k : Int) * c))))
theorem pe_lrg3 {X : Cx} {a b c : Expr} {ta : TA} {p1 p2 q1 q2 : Pos} (hc : X.calm = true) (hg : Gl X "list") (hm : X.mg "list" = none) (hg2 : Gl X "range") (hm2 : X.mg "range" = none) (ha : PA X [a, b, c] ta)
    (hs : starEach [a, b, c] X.env = (false, eval a X.env) :: starEach [b, c] X.env) (hpl : (backTo q2 (starEach [b, c] X.env)).any (·.1) = false)
    (na : starEach [.Call (.Name "range" p2) [a, b, c] [] q2] X.env = (false, eval (.Call (.Name "range" p2) [a, b, c] [] q2) X.env) :: starEach [] X.env) :
    PE X (.Call (.Name "list" p1) [.Call (.Name "range" p2) [a, b, c] [] q2] [] q1) (tLRg3V ta) := by
  refine ⟨fun pins s σ H Q I h => ?_⟩
  refine Call_ (ld_blt I hg hm boot_list (PyProof.Rows.callWith_type1 (args_cons ?_ na) na))
  refine Call_ (ld_blt I hg2 hm2 boot_range (PyProof.Rows.callWith_type1 (thn (ha.run q2 pins s σ H _ I h) fun us s1 ⟨vs, H1, I1, r1, q1⟩ => ?_) hs hpl))
  obtain ⟨i, j, k, n, e, ⟨c0, c1, c2, c3⟩, hn, q⟩ := q1
  subst e
  cases r1 with
  | cons r rr =>
    cases rr with
    | cons r' rr =>
      cases rr with
      | cons r'' rr =>
        cases rr
        obtain ⟨t, rfl⟩ := r
        obtain ⟨t', rfl⟩ := r'
        obtain ⟨t'', rfl⟩ := r''
        refine call_range_3 c0 ?_ (.inl (PyProof.noPylong_small c1))
        have I2 : Inv X pins σ H1 { s1 with heap := s1.heap.push { cls := .type "range", data := .fields #[.int i t, .int j t', .int k t''] } } := I1.kept (t' := s1.toks) fun b o e => Heap.get?_push_of_some _ e
        refine args_nil ?_
        refine call_list_range (n := n) (I2.ok.hd hc) (IsRange.new ..) c2 c3 hn fun h' tk acc c' hk e' hi => ?_
        have hacc : acc.toList.length = n := by rw [Array.length_toList]; exact hi.1
        have hv : Vals ((List.range n).map fun m : Nat => V.int (i + (m : Int) * k)) acc.toList := by
          rw [← hacc]
          refine vals_of_get acc.toList _ fun m u hm => ?_
          obtain ⟨t, rfl⟩ := hi.2 m u (by rw [← hm, Array.getElem?_toList])
          exact ⟨t, rfl⟩
        refine ⟨.ref _, _, I2.laid hk (Nat.le_refl _) (show ObjOk X.prog X.w _ _ _ (.lst ((List.range n).map fun m : Nat => V.int (i + (m : Int) * k))) from ⟨?_, acc.toList, c', hv, ?_⟩), rfl, q _ (I2.hok.fresh (Nat.le_refl _))⟩
        · rw [List.length_map, List.length_range, sizeLine_eq]; omega
        · rw [Array.toArray_toList]; exact e'
def tLRg3 (ta : AT) : ET := fun ρ q x => ta ρ (fun rs ρ1 => match rs with
  | [.d (.int i), .d (.int j), .d (.int c)] => ∃ n, RgC i j c n ∧ n ≤ 2 ^ 24 ∧ q (.n (.lst (rngC i c n))) ρ1
  | _ => False) x
theorem de_lrg3 {X : Cx} {p : Amb} {W : WX} {a b c : Expr} {ta : AT} {p1 p2 q1 q2 : Pos} (hc : X.calm = true) (hm : X.mg "list" = none) (hm2 : X.mg "range" = none) (ha : DA X p W [a, b, c] ta) (hg : Gl X "list" := by rfl) (hg2 : Gl X "range" := by rfl)
    (hs : starEach [a, b, c] X.env = (false, eval a X.env) :: starEach [b, c] X.env := by rfl) (hpl : (backTo q2 (starEach [b, c] X.env)).any (·.1) = false := by rfl)
    (na : starEach [.Call (.Name "range" p2) [a, b, c] [] q2] X.env = (false, eval (.Call (.Name "range" p2) [a, b, c] [] q2) X.env) :: starEach [] X.env := by rfl) :
    DE X p W (.Call (.Name "list" p1) [.Call (.Name "range" p2) [a, b, c] [] q2] [] q1) (tLRg3 ta) :=
  ⟨PE.imp (pe_lrg3 hc hg hm hg2 hm2 ha.pa hs hpl na) fun σ H Q ⟨M, ρ, q, xq, S, ht, hq, hx⟩ => by
    refine ⟨M, ρ, _, _, S, ht, fun vs M1 H1 ρ1 rs P1 S1 R1 h1 => ?_, hx⟩
    split at h1
    · rename_i i j c
      obtain ⟨n, hn, hz, h2⟩ := h1
      refine ⟨i, j, c, n, rvInt3 R1, hn, hz, fun l hl => ?_⟩
      have rep : RepL X.K M1 H1 ((List.range n).map fun m : Nat => V.int (i + (m : Int) * c)) (rngC i c n) := by
        unfold rngC
        have : ∀ l : List Nat, RepL X.K M1 H1 (l.map fun m : Nat => V.int (i + (m : Int) * c)) (l.map fun m : Nat => D.int (i + (m : Int) * c)) := fun l => by
          induction l with
          | nil => exact .nil
          | cons a l ih => exact .cons (.int _) ih
        exact this _
      obtain ⟨P2, R2⟩ := (ResOk.lst P1.sim.mok hl rep).fin S P1
      exact hq _ _ _ ρ1 _ P2 trivial R2 h2
    · exact h1.elim⟩
theorem tLRg3_ {ta : AT} {ρ : Ev} {q : EK} {x : XQ} : tLRg3 ta ρ q x = ta ρ (fun rs ρ1 => some! (match rs with | [.d (.int i), .d (.int j), .d (.int c)] => some (i, j, c) | _ => none) fun z => ∃ n, RgC z.1 z.2.1 z.2.2 n ∧ n ≤ 2 ^ 24 ∧ q (.n (.lst (rngC z.1 z.2.2 n))) ρ1) x := by
  unfold tLRg3
  congr 1
  funext rs ρ1
  split <;> rfl
end DL

set_option Elab.async false
set_option linter.all false
set_option maxRecDepth 100000
set_option maxHeartbeats 4000000
namespace DL
open PySem PySem.Spec PyProof.Rows L2
/-! a, b, c, d = ta, tb, tc, td -/
def sPar4 (i j l m : Nat) (ta tb tc td : ET) : ST := fun e ρ => ta ρ (fun r1 ρ1 => tb ρ1 (fun r2 ρ2 => tc ρ2 (fun r3 ρ3 => td ρ3 (fun r4 ρ4 => some! (ripe ρ4 r4) fun y4 => some! (ripe y4.2 r3) fun y3 => some! (ripe y3.2 r2) fun y2 =>
  some! (store i y2.2 r1) fun ρ5 => some! (store j ρ5 y2.1) fun ρ6 => some! (store l ρ6 y3.1) fun ρ7 => some! (store m ρ7 y4.1) e.nx) e.xc) e.xc) e.xc) e.xc
section
variable {X : Cx} {p : Amb} {W : WX} {a b c d : Expr} {ta tb tc td : ET} {pos : Pos}
theorem ds_par4 {i j l m : Nat} {x y z u : Str} {px py pz pu pt : Pos} {kt k2 pt2} (hc : X.calm = true) (hN : X.N.Nodup) (hi : X.N[i]? = some x) (hj : X.N[j]? = some y) (hl : X.N[l]? = some z) (hm : X.N[m]? = some u)
    (hx : Loc X.env.scope x) (hy : Loc X.env.scope y) (hz : Loc X.env.scope z) (hu : Loc X.env.scope u) (ha : DE X p W a ta) (hb : DE X p W b tb) (hcc : DE X p W c tc) (hd : DE X p W d td)
    (hsa : starEach [a, b, c, d] X.env = (false, eval a X.env) :: starEach [b, c, d] X.env := by rfl) (hsb : starEach [b, c, d] X.env = (false, eval b X.env) :: starEach [c, d] X.env := by rfl) (hsc : starEach [c, d] X.env = (false, eval c X.env) :: starEach [d] X.env := by rfl) (hsd : starEach [d] X.env = (false, eval d X.env) :: starEach [] X.env := by rfl)
    (hs : swapsWithSole [.Tuple [.Name x px, .Name y py, .Name z pz, .Name u pu] kt pt] (.Tuple [a, b, c, d] k2 pt2) pos.line X.env = pure false := by rfl) (hw : swappedStores [.Tuple [.Name x px, .Name y py, .Name z pz, .Name u pu] kt pt] (.Tuple [a, b, c, d] k2 pt2) X.env = pure none := by rfl)
    (fx : X.fn x = true ∨ X.env.scope.names.lookup x = some .local := by first | exact .inl rfl | exact .inr rfl) (fy : X.fn y = true ∨ X.env.scope.names.lookup y = some .local := by first | exact .inl rfl | exact .inr rfl) (fz : X.fn z = true ∨ X.env.scope.names.lookup z = some .local := by first | exact .inl rfl | exact .inr rfl) (fu : X.fn u = true ∨ X.env.scope.names.lookup u = some .local := by first | exact .inl rfl | exact .inr rfl)
    (hst : (assignEach [.Name x px, .Name y py, .Name z pz, .Name u pu] X.env).findIdx? (·.1) = none := by rfl) :
    DS X p W (.Assign [.Tuple [.Name x px, .Name y py, .Name z pz, .Name u pu] kt pt] (.Tuple [a, b, c, d] k2 pt2) pos) (sPar4 i j l m ta tb tc td) := ⟨PS.imp (ps_asg (pe_tup (pa_cons ha.pe (pa_cons hb.pe (pa_cons hcc.pe (pa_cons hd.pe pa_nil hsd) hsc) hsb) hsa))
      (pg_tup hc (pgs_cons (pg_name hN hi hx fx) (pgs_cons (pg_name hN hj hy fy) (pgs_cons (pg_name hN hl hz fz) (pgs_cons (pg_name hN hm hu fu) pgs_nil)))) rfl hst) hs hw) fun D σ H ⟨M, ρ, e, S, h, lk⟩ => by
  refine ⟨M, ρ, _, _, S, h, fun v1 M1 H1 ρ1 r1 P1 S1 R1 h1 => ?_, fun c M1 H1 ρ1 P1 h1 => lk.xc c M1 σ H1 ρ1 P1 h1⟩
  refine ⟨M1, ρ1, _, _, P1.sim, h1, fun v2 M2 H2 ρ2 r2 P2 S2 R2 h2 => ?_, fun c M2 H2 ρ2 P2 h2 => lk.xc c M2 σ H2 ρ2 (P1.trans S P2) h2⟩
  have P12 := P1.trans S P2
  refine ⟨M2, ρ2, _, _, P2.sim, h2, fun v3 M3 H3 ρ3 r3 P3 S3 R3 h3 => ?_, fun c M3 H3 ρ3 P3 h3 => lk.xc c M3 σ H3 ρ3 (P12.trans S P3) h3⟩
  have P13 := P12.trans S P3
  refine ⟨M3, ρ3, _, _, P3.sim, h3, fun v4 M4 H4 ρ4 r4 P4 S4 R4 h4 => ?_, fun c M4 H4 ρ4 P4 h4 => lk.xc c M4 σ H4 ρ4 (P13.trans S P4) h4⟩
  have P14 := P13.trans S P4
  refine ⟨by show 4 ≤ sizeLine; decide, fun q hq => ?_⟩
  obtain ⟨st, mok, nM⟩ := rep_new (o := .tup [v1, v2, v3, v4]) P4.sim.mok hq
  have Pq := P4.sim.post st mok
  have P1q := P14.trans S Pq
  obtain ⟨⟨r4', ρ5⟩, e4, h5⟩ := some!_ok h4
  have R4q := R4.post P4.sim Pq (Slots.refl _)
  obtain ⟨M5, P5, S5, R5, nk5⟩ := ripe_ok Pq.sim R4q e4
  obtain ⟨⟨r3', ρ6⟩, e3, h6⟩ := some!_ok h5
  have R3q := ((R3.post P3.sim P4 S4).post P4.sim Pq (Slots.refl _)).post Pq.sim P5 S5
  obtain ⟨M6, P6, S6, R6, nk6⟩ := ripe_ok P5.sim R3q e3
  obtain ⟨⟨r2', ρ7⟩, e2, h7⟩ := some!_ok h6
  have R2q := ((((R2.post P2.sim P3 S3).post P3.sim P4 S4).post P4.sim Pq (Slots.refl _)).post Pq.sim P5 S5).post P5.sim P6 S6
  obtain ⟨M7, P7, S7, R7, nk7⟩ := ripe_ok P6.sim R2q e2
  have R1q := ((((((R1.post P1.sim P2 S2).post P2.sim P3 S3).post P3.sim P4 S4).post P4.sim Pq (Slots.refl _)).post Pq.sim P5 S5).post P5.sim P6 S6).post P6.sim P7 S7
  have R5' := (R5.post P5.sim P6 S6).post P6.sim P7 S7
  have R6' := R6.post P6.sim P7 S7
  have P17 := ((P1q.trans S P5).trans S P6).trans S P7
  have dq : ∀ a, H4 a ≠ none → upd H4 q (.tup [v1, v2, v3, v4]) a ≠ none := st.dom
  have d1 : ∀ a, H1 a ≠ none → H2 a ≠ none := P2.step.dom
  have d2 : ∀ a, H2 a ≠ none → H3 a ≠ none := P3.step.dom
  obtain ⟨ρ8, g1, h8⟩ := some!_ok h7
  obtain ⟨M8, P8, W8⟩ := store_waits (i := i) S P17 R1q g1
  have T2 := W8 H1 v2 r2' R7 nk7 (n_there R1)
  have T3 := W8 H2 v3 r3' R6' nk6 fun a ea hx => d1 a (n_there R1 a ea hx)
  have T4 := W8 H3 v4 r4' R5' nk5 fun a ea hx => d2 a (d1 a (n_there R1 a ea hx))
  obtain ⟨ρ9, g2, h9⟩ := some!_ok h8
  have T2' := T2.back (H00 := H) P1.step.dom
  obtain ⟨M9, P9, W9⟩ := store_waits (i := j) S P8 T2' g2
  have T3' := W9 H2 v3 r3' T3 nk6 fun a ea ⟨x, hx⟩ => n_there R2 a ea ⟨x, ripe_n_of e2 hx⟩
  have T4' := W9 H3 v4 r4' T4 nk5 fun a ea ⟨x, hx⟩ => d2 a (n_there R2 a ea ⟨x, ripe_n_of e2 hx⟩)
  obtain ⟨ρ10, g3, h10⟩ := some!_ok h9
  have T3'' := T3'.back (H00 := H) P12.step.dom
  obtain ⟨M10, P10, W10⟩ := store_waits (i := l) S P9 T3'' g3
  have T4'' := W10 H3 v4 r4' T4' nk5 fun a ea ⟨x, hx⟩ => n_there R3 a ea ⟨x, ripe_n_of e3 hx⟩
  obtain ⟨ρ11, g4, h11⟩ := some!_ok h10
  have T4f := T4''.back (H00 := H) P13.step.dom
  obtain ⟨M11, P11⟩ := store_ok (i := m) S P10 T4f g4
  exact ⟨q, [v1, v2, v3, v4], rfl, .inl (.inl upd_same), rfl, v1, _, rfl, v2, _, rfl, v3, _, rfl, v4, _, rfl, rfl, lk.nx M11 _ _ ρ11 P11 h11⟩⟩
end
theorem sPar4_ {i j l m : Nat} {ta tb tc td : ET} {e : SE} {ρ : Ev} : sPar4 i j l m ta tb tc td e ρ = ta ρ (fun r1 ρ1 => tb ρ1 (fun r2 ρ2 => tc ρ2 (fun r3 ρ3 => td ρ3 (fun r4 ρ4 => some! (ripe ρ4 r4) fun y4 => some! (ripe y4.2 r3) fun y3 => some! (ripe y3.2 r2) fun y2 =>
  some! (store i y2.2 r1) fun ρ5 => some! (store j ρ5 y2.1) fun ρ6 => some! (store l ρ6 y3.1) fun ρ7 => some! (store m ρ7 y4.1) e.nx) e.xc) e.xc) e.xc) e.xc := rfl
end DL

set_option Elab.async false
set_option linter.all false
set_option maxRecDepth 100000
set_option maxHeartbeats 4000000
namespace DL
open PySem PySem.Spec PyProof.Rows L2
theorem fMul_t {xs : List D} {j : Int} {q : RV → Prop} : fMul (.tup xs) (.int j) q = (xs ≠ [] ∧ 2 ≤ j ∧ j ≤ 1000 ∧ xs.length ≤ 1000 ∧ q (.d (.tup (List.replicate j.toNat xs).flatten))) := rfl
theorem fIs_b {k i j : Bool} {q : RV → Prop} : fIs k (.bl i) (.bl j) q = q (.d (.bl (k ^^ decide (i = j)))) := rfl
/-! ### a chain of three comparisons -/
def tChain3 (r r' r'' : R2) (ta tb tc td : TE) : TE := fun σ H Q => ta σ H fun x H1 => tb σ H1 fun y H2 => r x y H2 fun z H3 => ∃ k, z = .bl k ∧
  (if k = true then tc σ H3 fun v H4 => r' y v H4 fun z2 H5 => ∃ k2, z2 = .bl k2 ∧ (if k2 = true then td σ H5 fun u H6 => r'' v u H6 Q else Q (.bl false) H5) else Q (.bl false) H3)
section
variable {X : Cx} {a b c d : Expr} {pos : Pos}
theorem pt_chain3 {op op' op'' : CmpOp} {r r' r'' : R2} {ta tb tc td : TE} (ho : OpR X (compareOp op) r) (ho' : OpR X (compareOp op') r') (ho'' : OpR X (compareOp op'') r'') (ha : PE X a ta) (hb : PE X b tb) (hc : PE X c tc) (hd : PE X d td)
    (hm : lastMarks [op, op', op''] [b, c, d] = false := by with_unfolding_all rfl) : PT X (.Compare a [op, op', op''] [b, c, d] pos) (tTest (tChain3 r r' r'' ta tb tc td)) := by
  refine ⟨fun pins s σ H Q I h => ?_⟩
  refine isTrue_chain (thn (ha.run pins s σ H _ I h) fun v s1 ⟨x, H1, I1, r1, q1⟩ => test_link (thn (hb.run pins s1 σ H1 _ I1 q1) fun u s2 ⟨y, H2, I2, r2, q2⟩ =>
    thn (ho pins s2 σ H2 x y v u _ I2 r1 r2 q2) fun d s3 ⟨z, H3, I3, r3, k, e, q3⟩ => ?_)) hm
  subst e
  cases r3
  refine wpAny_truthy_bool ?_
  cases k with
  | false =>
    obtain ⟨k', e', q'⟩ := q3
    cases e'
    exact ite_ff ⟨H3, I3, q'⟩
  | true =>
    refine ite_tt (test_link (thn (hc.run pins s3 σ H3 _ I3 q3) fun w' s4 ⟨z', H4, I4, r4, q4⟩ => thn (ho' pins s4 σ H4 y z' u w' _ I4 r2 r4 q4) fun d' s5 ⟨z2, H5, I5, r5, k2, e2, q5⟩ => ?_))
    subst e2
    cases r5
    refine wpAny_truthy_bool ?_
    cases k2 with
    | false =>
      obtain ⟨k', e', q'⟩ := q5
      cases e'
      exact ite_ff ⟨H5, I5, q'⟩
    | true =>
      refine ite_tt (test_last (thn (hd.run pins s5 σ H5 _ I5 q5) fun w'' s6 ⟨z3, H6, I6, r6, q6⟩ => thn (ho'' pins s6 σ H6 z' z3 w' w'' _ I6 r4 r6 q6) fun d'' s7 ⟨z4, H7, I7, r7, k3, e3, q7⟩ => ?_))
      subst e3
      cases r7
      exact wpAny_truthy_bool ⟨H7, I7, q7⟩
end
def tCh3 (f g h : D → D → (RV → Prop) → Prop) (ta tb tc td : ET) : ET := fun ρ q x => ta ρ (fun r ρ1 => tb ρ1 (fun s ρ2 => f2 f (rd ρ2 r) (rd ρ2 s) fun z => some! (blR z) fun k =>
  if k = true then tc ρ2 (fun u ρ3 => f2 g (rd ρ3 s) (rd ρ3 u) fun z2 => some! (blR z2) fun k2 => if k2 = true then td ρ3 (fun v ρ4 => f2 h (rd ρ4 u) (rd ρ4 v) fun z3 => q z3 ρ4) x else q (.d (.bl false)) ρ3) x else q (.d (.bl false)) ρ2) x) x
section
variable {X : Cx} {p : Amb} {W : WX} {a b c d : Expr} {ta tb tc td : ET} {pos : Pos}
theorem tCh3_ok {r r' r'' : R2} {f g h : D → D → (RV → Prop) → Prop} (hr : R2D X.K r f) (hr' : R2D X.K r' g) (hr'' : R2D X.K r'' h) {σ : L2.St} {H : Hp} {Q : VK} (hh : lift X.K p W (tCh3 f g h ta tb tc td) σ H Q) :
    tChain3 r r' r'' (lift X.K p W ta) (lift X.K p W tb) (lift X.K p W tc) (lift X.K p W td) σ H Q := by
  obtain ⟨M, ρ, q, xq, S, ht, hq, hx⟩ := hh
  refine ⟨M, ρ, _, _, S, ht, fun v M1 H1 ρ1 r1 P1 S1 R1 h1 => ?_, hx⟩
  refine ⟨M1, ρ1, _, _, P1.sim, h1, fun u M2 H2 ρ2 r2 P2 S2 R2 h2 => ?_, fun c M2 H2 ρ2 P2 h2 => hx c M2 H2 ρ2 (P1.trans S P2) h2⟩
  obtain ⟨x, y, e1, e2, h3⟩ := f2_ok h2
  have c1 := rd_ok P2.sim (R1.post P1.sim P2 S2) e1
  have c2 := rd_ok P2.sim R2 e2
  refine hr M2 H2 v u x y _ _ P2.sim.mok c1 c2 h3 fun w M3 H3 z ok hz => ?_
  obtain ⟨k, e3, h4⟩ := some!_ok hz
  obtain ⟨P3, R3⟩ := ok.fin S (P1.trans S P2)
  refine ⟨k, blR_ok e3 R3, ?_⟩
  have Q3 := P2.sim.post ok.step ok.mok
  cases k with
  | false =>
    rw [if_neg Bool.false_ne_true] at h4 ⊢
    exact hq _ M3 H3 ρ2 _ P3 (S1.trans S2) (RVok.dd (.bl false)) h4
  | true =>
    rw [if_pos rfl] at h4 ⊢
    refine ⟨M3, ρ2, _, _, P3.sim, h4, fun w2 M4 H4 ρ4 r4 P4 S4 R4 h5 => ?_, fun c M4 H4 ρ4 P4 h5 => hx c M4 H4 ρ4 (P3.trans S P4) h5⟩
    obtain ⟨x2, y2, e4, e5, h6⟩ := f2_ok h5
    have d1 := rd_ok P4.sim ((R2.post P2.sim Q3 (Slots.refl _)).post P3.sim P4 S4) e4
    have d2 := rd_ok P4.sim R4 e5
    refine hr' M4 H4 u w2 x2 y2 _ _ P4.sim.mok d1 d2 h6 fun w5 M5 H5 z5 ok5 hz5 => ?_
    obtain ⟨k2, e6, h7⟩ := some!_ok hz5
    obtain ⟨P5, R5⟩ := ok5.fin S (P3.trans S P4)
    refine ⟨k2, blR_ok e6 R5, ?_⟩
    have Q5 := P4.sim.post ok5.step ok5.mok
    cases k2 with
    | false =>
      rw [if_neg Bool.false_ne_true] at h7 ⊢
      exact hq _ M5 H5 ρ4 _ P5 ((S1.trans S2).trans S4) (RVok.dd (.bl false)) h7
    | true =>
      rw [if_pos rfl] at h7 ⊢
      refine ⟨M5, ρ4, _, _, P5.sim, h7, fun w7 M7 H7 ρ7 r7 P7 S7 R7 h8 => ?_, fun c M7 H7 ρ7 P7 h8 => hx c M7 H7 ρ7 (P5.trans S P7) h8⟩
      obtain ⟨x3, y3, e8, e9, h9⟩ := f2_ok h8
      have g1 := rd_ok P7.sim ((R4.post P4.sim Q5 (Slots.refl _)).post P5.sim P7 S7) e8
      have g2 := rd_ok P7.sim R7 e9
      refine hr'' M7 H7 w2 w7 x3 y3 _ _ P7.sim.mok g1 g2 h9 fun w9 M9 H9 z9 ok9 hz9 => ?_
      obtain ⟨P9, R9⟩ := ok9.fin S (P5.trans S P7)
      exact hq _ M9 H9 ρ7 z9 P9 (((S1.trans S2).trans S4).trans S7) R9 hz9
theorem db_chain3 {op op' op'' : CmpOp} {r r' r'' : R2} {f g h : D → D → (RV → Prop) → Prop} (ho : OpR X (compareOp op) r) (hr : R2D X.K r f) (ho' : OpR X (compareOp op') r') (hr' : R2D X.K r' g) (ho'' : OpR X (compareOp op'') r'') (hr'' : R2D X.K r'' h)
    (ha : DE X p W a ta) (hb : DE X p W b tb) (hc : DE X p W c tc) (hd : DE X p W d td)
    (hm : lastMarks [op, op', op''] [b, c, d] = false := by with_unfolding_all rfl) : DB X p W (.Compare a [op, op', op''] [b, c, d] pos) (tT (tCh3 f g h ta tb tc td)) :=
  ⟨PT.imp (pt_chain3 ho ho' ho'' ha.pe hb.pe hc.pe hd.pe hm) fun σ H Q h => tCh3_ok hr hr' hr'' (tT_ok h)⟩
theorem tCh3_ {f g h : D → D → (RV → Prop) → Prop} {ρ : Ev} {q : EK} {x : XQ} : tCh3 f g h ta tb tc td ρ q x = ta ρ (fun r ρ1 => tb ρ1 (fun s ρ2 => f2 f (rd ρ2 r) (rd ρ2 s) fun z => some! (blR z) fun k =>
  if k = true then tc ρ2 (fun u ρ3 => f2 g (rd ρ3 s) (rd ρ3 u) fun z2 => some! (blR z2) fun k2 => if k2 = true then td ρ3 (fun v ρ4 => f2 h (rd ρ4 u) (rd ρ4 v) fun z3 => q z3 ρ4) x else q (.d (.bl false)) ρ3) x else q (.d (.bl false)) ρ2) x) x := rfl
end
/-! ### try: .. except K as e: return an expression of e -/
section
variable {X : Cx} {i : Nat} {n : Str} {wd : Addr → Option Str} {p1 pos : Pos}
theorem ds_tryE {p : Amb} {W : WX} {xk : Str} {CK : Addr} {body : List Stmt} {tb : ST} {ex : Expr} {np rp pos' tpos : Pos} (hs : X.stack = X.env :: X.outer) (hf : X.env.frame = some X.env.locals) (hN : X.N.Nodup) (hi : X.N[i]? = some n) (hln : X.env.kindOf n = some .local) (hc : Names X xk (.ref CK)) (tk : L2N.Takes X W)
    (hb : ∀ (W : WX) (pn : List (Addr × Obj)) (xe : Value → Shared → Prop), L2N.Takes (X.tr pn xe) W → PassesOwn (model X.prog X.w) X.A X.env xe → DSs (X.tr pn xe) p W body tb)
    (hex : ∀ D z, wd D = some z → PySem.W.exmOne X.K (.ref D) (.ref CK) = some true)
    (hpe : ∀ (a : Addr) (oe : Obj) (cls : Value) (d : Option Addr) (pn : List (Addr × Obj)), L2N.Zn cls d oe → (∃ vs, oe.data = .fields vs) → PE (X.suite a ((a, oe) :: pn)) ex (tsWord wd i a cls d)) :
    DS X p W (.Try body [.ExceptHandler (some (.Name xk np)) (some n) [.Return (some ex) rp] pos'] [] [] tpos) (sTryW wd i tb) :=
  ⟨PS.imp (L2N.ps_try_as (tb := fun W => liftS X.K p W tb) (ts := fun a cls d => tRet (tsWord wd i a cls d)) hs hf hN hi hln hc tk (fun W pn xe t po => (hb W pn xe t po).pss)
    (fun a oe cls d pn hz hfl => pss_one (ps_ret (hpe a oe cls d pn hz hfl)))) fun D σ H ⟨M, ρ, e, S, h, l⟩ => by
    refine ⟨M, ρ, _, S, h, ⟨l.nx, l.bk, l.ct, l.rt, fun c M' σ' H' ρ' P' h' => ?_⟩⟩
    obtain ⟨hl, h'⟩ := h'
    obtain ⟨z, ez, h2⟩ := some!_ok h'
    refine ⟨true, hex c z ez, fun _ a ha => ⟨c, z, rfl, rfl, ez, List.getElem?_set_self (by rw [← P'.sim.len]; exact hl), fun H'' sm => ?_⟩, fun z => nomatch z⟩
    have dom : ∀ b, H' b ≠ none → H'' b ≠ none := fun b hb => by
      cases q : H' b with
      | none => exact absurd q hb
      | some o => rw [sm b o q]; exact fun z => nomatch z
    have P2 := P'.sim.post (M1 := M') ⟨fun b o e _ _ => ⟨.inl (sm b o e), fun _ => sm b o e⟩, fun b z => .inl z, fun b z _ => z, dom, fun b _ e => sm b _ e, fun b ⟨ps, e, t⟩ => ⟨ps, sm b _ e, t⟩⟩ fun b z => dom b (P'.sim.mok b z)
    exact l.rt (.str z) M' σ' H'' ρ' _ (P'.trans S P2) (RetOk.dd (.str z)) h2⟩
/-- of each error that has a word: its class, which of the two it is of, and the word that these tell -/
structure Tell2 (K : PySem.W.Frag) (CK C1 C2 : Addr) (ws : List Str) (wd : Addr → Option Str) : Prop where
  ex : ∀ D z, wd D = some z → PySem.W.exmOne K (.ref D) (.ref CK) = some true
  cl : ∀ D z, wd D = some z → ∃ b1 b2, ExcC K D ∧ PySem.W.kitOne K (.ref D) (.ref C1) = some b1 ∧ PySem.W.kitOne K (.ref D) (.ref C2) = some b2 ∧ ws[(if b1 then 1 else 0) + 2 * (if b2 then 1 else 0)]? = some z
structure Tell1 (K : PySem.W.Frag) (CK C1 : Addr) (ws : List Str) (wd : Addr → Option Str) : Prop where
  ex : ∀ D z, wd D = some z → PySem.W.exmOne K (.ref D) (.ref CK) = some true
  cl : ∀ D z, wd D = some z → ∃ b1, ExcC K D ∧ PySem.W.kitOne K (.ref D) (.ref C1) = some b1 ∧ ws[if b1 then 1 else 0]? = some z
theorem pe_tell2 {a : Addr} {oe : Obj} {cls : Value} {d : Option Addr} {pn : List (Addr × Obj)} {CK C1 C2 : Addr} {w1 w2 w3 x1 x2 : Str} {k1 k2 k3 k4 : Nat} {q1 q2 q3 q4 q5 q6 q7 q8 q9 r1 r2 r3 r4 r5 r6 r7 r8 r9 : Pos}
    (T : Tell2 X.K CK C1 C2 [w1, w2, w3] wd) (hz : L2N.Zn cls d oe) (hf : ∃ vs, oe.data = .fields vs) (hi : X.N[i]? = some n) (hv : Vis X.env.scope n) (m1 : X.mg x1 = some (.ref C1)) (m2 : X.mg x2 = some (.ref C2)) (hm : X.mg "isinstance" = none) (hm2 : X.mg "int" = none)
    (g1 : Gl X x1 := by rfl) (g2 : Gl X x2 := by rfl) (hg : Gl X "isinstance" := by rfl) (hg2 : Gl X "int" := by rfl) (hd1 : (n == ("__debug__" : Str)) = false := by decide) (hd2 : (n == ("__classdict__" : Str)) = false := by decide) (hd3 : (x1 == ("__debug__" : Str)) = false := by decide) (hd4 : (x2 == ("__debug__" : Str)) = false := by decide) :
    PE (X.suite a ((a, oe) :: pn)) (.Subscript (.List [.Constant (.str w1) k1 q1, .Constant (.str w2) k2 q2, .Constant (.str w3) k3 q3] q4)
      (.BinOp (.Call (.Name "int" r1) [.Call (.Name "isinstance" r2) [.Name n r3, .Name x1 r4] [] r5] [] r6) .Add
        (.BinOp (.Constant (.int 2) k4 r7) .Mult (.Call (.Name "int" r8) [.Call (.Name "isinstance" q5) [.Name n q6, .Name x2 q7] [] q8] [] q9) p1) pos) r9) (tsWord wd i a cls d) := ⟨fun pins s σ H Q I h => by
  obtain ⟨D, z, rfl, rfl, hwd, hs, hq⟩ := h
  obtain ⟨b1, b2, C, kb1, kb2, hw⟩ := T.cl D z hwd
  have hV : ∀ {p : Pos}, PE (X.suite a ((a, oe) :: pn)) (.Name n p) (tVar i) := pe_var hi hv hd1 hd2
  have hI : ∀ {x : Str} {Cx : Addr} {p2 p3 p4 p5 : Pos}, Gl X x → X.mg x = some (.ref Cx) → (x == ("__debug__" : Str)) = false → PE (X.suite a ((a, oe) :: pn)) (.Call (.Name "isinstance" p2) [.Name n p3, .Name x p4] [] p5) (tCB (rIsE X.K D a) (tCons (tVar i) (tCons (tC (.ref Cx)) tNil))) := fun g m dd =>
    pe_callB (call_isE C hz.zc hf) hg hm (by decide +kernel) (pa_cons hV (pa_cons (pe_glob g m rfl dd) pa_nil))
  have hInt : ∀ {e : Expr} {te : TE} {p2 p3 : Pos}, PE (X.suite a ((a, oe) :: pn)) e te → (starEach [e] X.env = (false, eval e X.env) :: starEach [] X.env) → PE (X.suite a ((a, oe) :: pn)) (.Call (.Name "int" p2) [e] [] p3) (tCB (fun xs H Q => (∃ i, xs = [.int i] ∧ Q (.int i) H) ∨ ∃ k, xs = [.bl k] ∧ Q (.int (if k then 1 else 0)) H) (tCons te tNil)) := fun h he =>
    pe_callTy call_int1 hg2 hm2 (by decide +kernel) (pa_cons h pa_nil he) (by decide) (by decide) he rfl
  have cls : ∀ C : Addr, ∀ u, RelV (.ref C) u → u = .ref C := fun C u h => h
  have key := (pe_ix ix_list (pe_lst (pa_cons pe_str (pa_cons pe_str (pa_cons pe_str pa_nil)))) (pe_op op_add (hInt (hI g1 m1 hd3) rfl) (pe_op op_mul pe_int (hInt (hI g2 m2 hd4) rfl))) (fun _ _ => rfl) :
    PE (X.suite a ((a, oe) :: pn)) (.Subscript (.List [.Constant (.str w1) k1 q1, .Constant (.str w2) k2 q2, .Constant (.str w3) k3 q3] q4)
      (.BinOp (.Call (.Name "int" r1) [.Call (.Name "isinstance" r2) [.Name n r3, .Name x1 r4] [] r5] [] r6) .Add
        (.BinOp (.Constant (.int 2) k4 r7) .Mult (.Call (.Name "int" r8) [.Call (.Name "isinstance" q5) [.Name n q6, .Name x2 q7] [] q8] [] q9) p1) pos) r9) _)
  refine key.run pins s σ H Q I ?_
  refine ⟨by show 3 ≤ sizeLine; rw [sizeLine_eq]; decide, fun m hm' => ?_⟩
  refine ⟨_, hs, .ref C1, .ref C1, b1, rfl, cls C1, kb1, .inr ⟨b1, rfl, _, hs, .ref C2, .ref C2, b2, rfl, cls C2, kb2, .inr ⟨b2, rfl, 2, _, rfl, rfl, ?_, ?_⟩⟩⟩
  · exact .inl ⟨by decide, by decide⟩
  refine ⟨_, _, rfl, rfl, m, [.str w1, .str w2, .str w3], _, .str z, rfl, rfl, SqL.of upd_same, ?_, hq _ (same_new hm')⟩
  cases b1 <;> cases b2
  · cases hw; rfl
  · cases hw; rfl
  · cases hw; rfl
  · exact nomatch (show (none : Option Str) = some z from hw)⟩
theorem pe_tell1 {a : Addr} {oe : Obj} {cls : Value} {d : Option Addr} {pn : List (Addr × Obj)} {CK C1 : Addr} {w1 w2 x1 : Str} {k1 k2 : Nat} {q1 q2 q4 r1 r2 r3 r4 r5 r6 r9 : Pos}
    (T : Tell1 X.K CK C1 [w1, w2] wd) (hz : L2N.Zn cls d oe) (hf : ∃ vs, oe.data = .fields vs) (hi : X.N[i]? = some n) (hv : Vis X.env.scope n) (m1 : X.mg x1 = some (.ref C1)) (hm : X.mg "isinstance" = none) (hm2 : X.mg "int" = none)
    (g1 : Gl X x1 := by rfl) (hg : Gl X "isinstance" := by rfl) (hg2 : Gl X "int" := by rfl) (hd1 : (n == ("__debug__" : Str)) = false := by decide) (hd2 : (n == ("__classdict__" : Str)) = false := by decide) (hd3 : (x1 == ("__debug__" : Str)) = false := by decide) :
    PE (X.suite a ((a, oe) :: pn)) (.Subscript (.List [.Constant (.str w1) k1 q1, .Constant (.str w2) k2 q2] q4)
      (.Call (.Name "int" r1) [.Call (.Name "isinstance" r2) [.Name n r3, .Name x1 r4] [] r5] [] r6) r9) (tsWord wd i a cls d) := ⟨fun pins s σ H Q I h => by
  obtain ⟨D, z, rfl, rfl, hwd, hs, hq⟩ := h
  obtain ⟨b1, C, kb1, hw⟩ := T.cl D z hwd
  have hV : ∀ {p : Pos}, PE (X.suite a ((a, oe) :: pn)) (.Name n p) (tVar i) := pe_var hi hv hd1 hd2
  have hI : ∀ {x : Str} {Cx : Addr} {p2 p3 p4 p5 : Pos}, Gl X x → X.mg x = some (.ref Cx) → (x == ("__debug__" : Str)) = false → PE (X.suite a ((a, oe) :: pn)) (.Call (.Name "isinstance" p2) [.Name n p3, .Name x p4] [] p5) (tCB (rIsE X.K D a) (tCons (tVar i) (tCons (tC (.ref Cx)) tNil))) := fun g m dd =>
    pe_callB (call_isE C hz.zc hf) hg hm (by decide +kernel) (pa_cons hV (pa_cons (pe_glob g m rfl dd) pa_nil))
  have hInt : ∀ {e : Expr} {te : TE} {p2 p3 : Pos}, PE (X.suite a ((a, oe) :: pn)) e te → (starEach [e] X.env = (false, eval e X.env) :: starEach [] X.env) → PE (X.suite a ((a, oe) :: pn)) (.Call (.Name "int" p2) [e] [] p3) (tCB (fun xs H Q => (∃ i, xs = [.int i] ∧ Q (.int i) H) ∨ ∃ k, xs = [.bl k] ∧ Q (.int (if k then 1 else 0)) H) (tCons te tNil)) := fun h he =>
    pe_callTy call_int1 hg2 hm2 (by decide +kernel) (pa_cons h pa_nil he) (by decide) (by decide) he rfl
  have cls : ∀ C : Addr, ∀ u, RelV (.ref C) u → u = .ref C := fun C u h => h
  have key := (pe_ix ix_list (pe_lst (pa_cons pe_str (pa_cons pe_str pa_nil))) (hInt (hI g1 m1 hd3) rfl) (fun _ _ => rfl) :
    PE (X.suite a ((a, oe) :: pn)) (.Subscript (.List [.Constant (.str w1) k1 q1, .Constant (.str w2) k2 q2] q4) (.Call (.Name "int" r1) [.Call (.Name "isinstance" r2) [.Name n r3, .Name x1 r4] [] r5] [] r6) r9) _)
  refine key.run pins s σ H Q I ?_
  refine ⟨by show 2 ≤ sizeLine; rw [sizeLine_eq]; decide, fun m hm' => ?_⟩
  refine ⟨_, hs, .ref C1, .ref C1, b1, rfl, cls C1, kb1, .inr ⟨b1, rfl, ?_⟩⟩
  refine ⟨m, [.str w1, .str w2], _, .str z, rfl, rfl, SqL.of upd_same, ?_, hq _ (same_new hm')⟩
  cases b1 <;> (cases hw; rfl)⟩
end
end DL

set_option Elab.async false
set_option linter.all false
set_option maxRecDepth 100000
set_option maxHeartbeats 4000000
namespace DL
open PySem PySem.Spec PyProof.Rows L2
/-! ### dicts with tuple keys: a new one, a store -/
theorem ResOk.dit {K : PySem.W.Frag} {M : Addr → Prop} {H : Hp} (mok : ∀ p, M p → H p ≠ none) {p : Addr} {xs : List (List Key × V)} {ds : List (List Key × D)} (hp : H p = none) (r : RepT K M H xs ds) : ResOk K M H (fun a => M a ∨ a = p) (upd H p (.dT xs)) (.ref p) (.n (.dit ds)) := by
  obtain ⟨s, m, n⟩ := rep_new (o := .dT xs) mok hp
  have s' : Step M Nil H (fun a => M a ∨ a = p) (upd H p (.dT xs)) := ⟨s.fr, fun a h => h.elim .inl fun e => .inr (e ▸ hp), fun a h _ => .inl h, s.dom, s.tp, s.tb⟩
  refine ⟨s', fun q h => ?_, ⟨p, rfl, hp, .inr rfl, xs, upd_same, r.keep (s'.keep fun _ z => z.elim)⟩⟩
  rcases h with h | h
  · exact m q h
  · rw [h, upd_same]; exact fun z => nomatch z
def tDNewT : ET := fun ρ q _ => q (.n (.dit [])) ρ
theorem de_dnewT {X : Cx} {p : Amb} {W : WX} {pos : Pos} : DE X p W (.Dict [] [] pos) tDNewT := ⟨PE.imp pe_dnewT fun σ H Q ⟨M, ρ, q, xq, S, ht, hq, hx⟩ => fun l hl => by
  obtain ⟨P, R⟩ := (ResOk.dit (K := X.K) (xs := []) (ds := []) S.mok hl .nil).fin S (Post.refl S)
  exact hq _ _ _ ρ _ P (Slots.refl ρ) R ht⟩
def ownT (ρ : Ev) : RV → Option (Nat × List (List Key × D))
  | .o i => match ownS ρ[i]? with
    | some (.dit xs) => some (i, xs)
    | _ => none
  | _ => none
theorem ownT_ok {ρ : Ev} {r : RV} {i : Nat} {xs : List (List Key × D)} (h : ownT ρ r = some (i, xs)) : r = .o i ∧ ownS ρ[i]? = some (.dit xs) := by
  cases r with
  | o j =>
    unfold ownT at h
    simp only at h
    split at h
    · rename_i ys e
      cases h
      exact ⟨rfl, e⟩
    · cases h
  | _ => cases h
def keyRT (ρ : Ev) (r : RV) : Option (List Key) := (rd ρ r).bind keyT
def gSetT (to ti : ET) : GT := fun d ρ q => to ρ (fun r ρ1 => ti ρ1 (fun s ρ2 => some! (ownT ρ2 r) fun a => some! (keyRT ρ2 s) fun k => a.2.length < sizeLine ∧ q (put a.1 (.dit (putT a.2 k d)) ρ2)) fun _ _ => False) fun _ _ => False
section
variable {X : Cx} {p : Amb} {W : WX} {pos : Pos}
theorem dg_setT {k : Nat} (hr : Room k X.A) {o i : Expr} {to ti : ET} (ho : DE X p (fun _ _ _ _ => False) o to) (hi : DE X p (fun _ _ _ _ => False) i ti)
    (ha : ∀ v, assign (.Subscript o i pos) X.env v = (do
      let ov ← holding [v] (eval o X.env)
      let iv ← holding [v, ov] (eval i X.env)
      standAt pos
      holding [v, ov, iv] (setItem ov iv v)
      release [v, ov, iv] []) := by intro _; rfl) : DG X p (.Subscript o i pos) [] (gSetT to ti) :=
  ⟨PG.imp (pg_sub ho.pe hi.pe (set_dict (hu_of hr)) ha) fun v σ H Q ⟨M, ρ, d, q, S, R, h, k⟩ => by
    refine ⟨M, ρ, _, _, S, h, fun vo M1 H1 ρ1 r1 P1 S1 R1 h1 => ?_, fun c M1 H1 ρ1 P1 h1 => h1⟩
    refine ⟨M1, ρ1, _, _, P1.sim, h1, fun vi M2 H2 ρ2 r2 P2 S2 R2 h2 => ?_, fun c M2 H2 ρ2 P2 h2 => h2⟩
    obtain ⟨⟨n, xs⟩, e1, h3⟩ := some!_ok h2
    obtain ⟨rfl, eo⟩ := ownT_ok e1
    obtain ⟨key, e2, hl, h5⟩ := some!_ok h3
    obtain ⟨dk, e3, e4⟩ := Option.bind_eq_some_iff.mp e2
    obtain ⟨a, hs1, m1, ⟨vs0, hv0, r0⟩, w1⟩ := own_at P2.sim eo
    obtain rfl : vo = .ref a := by
      have z := R1.1
      rw [hs1] at z
      cases z
      rfl
    have P12 := P1.trans S P2
    obtain ⟨b, rfl, hb⟩ := keyT_ok (rd_ok P2.sim R2 e3) e4
    refine ⟨a, _, rfl, DPut.t hv0 hb (by rw [r0.length]; exact hl), ?_⟩
    have kk : Keep M2 H2 M2 (upd H2 a (.dT (putK vs0 key v))) := ⟨fun b w e n _ => ⟨.inl (by rw [upd_cold m1 n]; exact e), n⟩, fun b xs e => (upd_ne (fun z => by rw [z, hv0] at e; cases e)).trans e⟩
    have P4 := mut_ok P2.sim eo hs1 (o := .dT (putK vs0 key v)) (y := .dit (putT xs key d)) ⟨_, upd_same, (r0.keep kk).put ((R.keep (P12.keep S)).keep kk)⟩
    exact k _ _ _ _ (P12.trans S P4) ⟨rfl, fun _ _ => rfl⟩ h5⟩
end
/-! ### d.get(k), d.get(k, x) -/
def isDic : Option D → Prop
  | some (.dic _) => True
  | some (.dit _) => True
  | _ => False
def getK (d k : Option D) : Option (Option D) := match d, k with
  | some (.dic kvs), some k => (keyD k).map (valD kvs)
  | some (.dit kvs), some k => (keyT k).map (valT kvs)
  | _, _ => none
theorem isDic_ok {K : PySem.W.Frag} {M : Addr → Prop} {H : Hp} {v : V} {d : Option D} (h : isDic d) (r : ∀ x, d = some x → RepC K M H v x) : ∃ a, v = .ref a ∧ IsD H a := by
  cases d with
  | none => exact h.elim
  | some d =>
    cases d with
    | dic ds =>
      obtain ⟨a, xs, rfl, hx, _⟩ := (r _ rfl).dic
      exact ⟨a, rfl, .inl ⟨xs, hx⟩⟩
    | dit ds =>
      obtain ⟨a, xs, rfl, hx, _⟩ := (r _ rfl).dit
      exact ⟨a, rfl, .inr ⟨xs, hx⟩⟩
    | _ => exact h.elim
theorem getK_ok {K : PySem.W.Frag} {M : Addr → Prop} {H : Hp} {a : Addr} {y : V} {d k : Option D} {o : Option D} (h : getK d k = some o) (r : ∀ x, d = some x → RepC K M H (.ref a) x) (s : ∀ x, k = some x → RepC K M H y x) :
    ∃ u, DGet H a y u ∧ ((u = none ∧ o = none) ∨ ∃ v x, u = some v ∧ o = some x ∧ Rep K M H v x) := by
  unfold getK at h
  split at h
  · rename_i kvs k
    obtain ⟨key, e, rfl⟩ := Option.map_eq_some_iff.mp h
    obtain ⟨p, xs, ey, hx, rr⟩ := (r _ rfl).dic
    cases ey
    obtain rfl := keyD_ok (s _ rfl) e
    refine ⟨valV xs key, .inl ⟨xs, key, hx, rfl, rfl⟩, ?_⟩
    rcases rr.val (k := key) with ⟨e1, e2⟩ | ⟨v, d, e1, e2, e3⟩
    · exact .inl ⟨e1, e2⟩
    · exact .inr ⟨v, d, e1, e2, e3⟩
  · rename_i kvs k
    obtain ⟨key, e, rfl⟩ := Option.map_eq_some_iff.mp h
    obtain ⟨p, xs, ey, hx, rr⟩ := (r _ rfl).dit
    cases ey
    obtain ⟨b, rfl, hb⟩ := keyT_ok (s _ rfl) e
    refine ⟨valV xs key, .inr ⟨xs, key, b, hx, rfl, hb, rfl⟩, ?_⟩
    rcases rr.val (k := key) with ⟨e1, e2⟩ | ⟨v, d, e1, e2, e3⟩
    · exact .inl ⟨e1, e2⟩
    · exact .inr ⟨v, d, e1, e2, e3⟩
  · cases h
def pick (o : Option D) (q : RV → Prop) (z : RV) : Prop := match o with
  | some d => q (.d d)
  | none => q z
def tGet2 (to te tf : ET) : ET := fun ρ q x => to ρ (fun r ρ1 => isDic (rd ρ1 r) ∧ te ρ1 (fun s ρ2 => tf ρ2 (fun u ρ3 => some! (getK (rd ρ3 r) (rd ρ3 s)) fun o => pick o (fun z => q z ρ3) u) x) x) x
def tGet1 (to te : ET) : ET := fun ρ q x => to ρ (fun r ρ1 => isDic (rd ρ1 r) ∧ te ρ1 (fun s ρ2 => some! (getK (rd ρ2 r) (rd ρ2 s)) fun o => pick o (fun z => q z ρ2) (.d .non)) x) x
section
variable {X : Cx} {p : Amb} {W : WX} {o e f : Expr} {to te tf : ET} {apos cpos : Pos}
theorem de_get2 {k : Nat} (hr : Room k X.A) (ho : DE X p W o to) (he : DE X p W e te) (hf : DE X p W f tf) (m : M2 X o "get" apos e f cpos := by exact ⟨by rfl, by rfl, by rfl, by rfl⟩) : DE X p W (.Call (.Attribute o "get" apos) [e, f] [] cpos) (tGet2 to te tf) :=
  ⟨PE.imp (pe_dget2 (hu_of hr) ho.pe he.pe hf.pe m) fun σ H Q ⟨M, ρ, q, xq, S, ht, hq, hx⟩ => by
    refine ⟨M, ρ, _, _, S, ht, fun v M1 H1 ρ1 r P1 S1 R1 h1 => ?_, hx⟩
    obtain ⟨hd, h2⟩ := h1
    obtain ⟨a, rfl, ia⟩ := isDic_ok hd fun x ex => rd_ok P1.sim R1 ex
    refine ⟨a, rfl, ia, M1, ρ1, _, _, P1.sim, h2, fun y M2 H2 ρ2 s P2 S2 R2 h3 => ?_, fun c M2 H2 ρ2 P2 h3 => hx c M2 H2 ρ2 (P1.trans S P2) h3⟩
    refine ⟨M2, ρ2, _, _, P2.sim, h3, fun z M3 H3 ρ3 u P3 S3 R3 h4 => ?_, fun c M3 H3 ρ3 P3 h4 => hx c M3 H3 ρ3 ((P1.trans S P2).trans S P3) h4⟩
    obtain ⟨od, eo, h5⟩ := some!_ok h4
    have P123 := (P1.trans S P2).trans S P3
    obtain ⟨ov, g, hov⟩ := getK_ok eo (fun x ex => rd_ok P3.sim ((R1.post P1.sim P2 S2).post P2.sim P3 S3) ex) fun x ex => rd_ok P3.sim (R2.post P2.sim P3 S3) ex
    refine ⟨ov, g, ?_⟩
    rcases hov with ⟨rfl, rfl⟩ | ⟨v, x, rfl, rfl, rv⟩
    · exact hq z M3 H3 ρ3 u P123 trivial (R3.back (P1.trans S P2).step.dom) h5
    · exact hq v M3 H3 ρ3 (.d x) P123 trivial (RVok.dd rv) h5⟩
theorem de_get1 {k : Nat} (hr : Room k X.A) (ho : DE X p W o to) (he : DE X p W e te) (m : M1 X o "get" apos e cpos := by exact ⟨by rfl, by rfl, by rfl, by rfl⟩) : DE X p W (.Call (.Attribute o "get" apos) [e] [] cpos) (tGet1 to te) :=
  ⟨PE.imp (pe_dget1 (hu_of hr) ho.pe he.pe m) fun σ H Q ⟨M, ρ, q, xq, S, ht, hq, hx⟩ => by
    refine ⟨M, ρ, _, _, S, ht, fun v M1 H1 ρ1 r P1 S1 R1 h1 => ?_, hx⟩
    obtain ⟨hd, h2⟩ := h1
    obtain ⟨a, rfl, ia⟩ := isDic_ok hd fun x ex => rd_ok P1.sim R1 ex
    refine ⟨a, rfl, ia, M1, ρ1, _, _, P1.sim, h2, fun y M2 H2 ρ2 s P2 S2 R2 h3 => ?_, fun c M2 H2 ρ2 P2 h3 => hx c M2 H2 ρ2 (P1.trans S P2) h3⟩
    obtain ⟨od, eo, h5⟩ := some!_ok h3
    have P12 := P1.trans S P2
    obtain ⟨ov, g, hov⟩ := getK_ok eo (fun x ex => rd_ok P2.sim (R1.post P1.sim P2 S2) ex) fun x ex => rd_ok P2.sim R2 ex
    refine ⟨ov, g, ?_⟩
    rcases hov with ⟨rfl, rfl⟩ | ⟨v, x, rfl, rfl, rv⟩
    · exact hq .non M2 H2 ρ2 (.d .non) P12 trivial (RVok.dd .non) h5
    · exact hq v M2 H2 ρ2 (.d x) P12 trivial (RVok.dd rv) h5⟩
end
/-! ### walks over dicts: the dict is made still for good -/
/-- the heap behind that -/
def Froze (H : Hp) (d : Addr) (u : HO) (od : Obj) (H' : Hp) : Prop := (H d = some (.frz od u) ∧ H' = H) ∨ (H d = some u ∧ H' = upd H d (.frz od u))
def tFreeze (t : TE) : TE := fun σ H Q => t σ H fun x H1 => ∃ d u, x = .ref d ∧ Rd H1 d u ∧ Mut (some u) ∧ ∀ od H2, Froze H1 d u od H2 → Q x H2
theorem pe_freeze {X : Cx} {e : Expr} {t : TE} (h : PE X e t) : PE X e (tFreeze t) := ⟨fun pins s σ H Q I hw =>
  thn (h.run pins s σ H _ I hw) fun v s1 ⟨x, H1, I1, r, d, u, ex, hd, mu, q⟩ => by
    rcases hd with hd | ⟨od, hd⟩
    · obtain ⟨od, I2⟩ := I1.lock hd mu
      exact ⟨x, _, I2, r, q od _ (.inr ⟨hd, rfl⟩)⟩
    · exact ⟨x, _, I1, r, q od _ (.inl ⟨hd, rfl⟩)⟩⟩
theorem Froze.at {H H' : Hp} {d : Addr} {u : HO} {od : Obj} (h : Froze H d u od H') : H' d = some (.frz od u) := by
  rcases h with ⟨h, rfl⟩ | ⟨_, rfl⟩
  · exact h
  · exact upd_same
theorem Froze.step {M : Addr → Prop} {H H' : Hp} {d : Addr} {u : HO} {od : Obj} (h : Froze H d u od H') (n : ¬ M d) (k : Dk u) : Step M Nil H M H' := by
  rcases h with ⟨_, rfl⟩ | ⟨hd, rfl⟩
  · exact Step.refl
  · refine ⟨fun a o e _ _ => ?_, fun a h => .inl h, fun a h _ => h, fun a h => ?_, fun a xs e => ?_, tab_upd fun ps z => ?_⟩
    · by_cases ha : a = d
      · subst ha
        rw [hd] at e
        cases e
        exact ⟨.inr ⟨k, od, upd_same⟩, fun m => absurd m n⟩
      · exact ⟨.inl ((upd_ne ha).trans e), fun _ => (upd_ne ha).trans e⟩
    · by_cases ha : a = d
      · rw [ha, upd_same]; exact fun z => nomatch z
      · rw [upd_ne ha]; exact h
    · exact (upd_ne (fun z => by rw [z, hd] at e; cases e; exact k)).trans e
    · rw [hd] at z; cases z; exact k
section
variable {K : PySem.W.Frag} {M : Addr → Prop} {H : Hp} {a : Addr} {od : Obj}
theorem RepK.get : ∀ {v : List (Key × V)} {d : List (Key × D)} {i : Nat}, RepK K M H v d → i < d.length → ∃ k u x, v[i]? = some (k, u) ∧ d[i]? = some (k, x) ∧ Rep K M H u x
  | _, _, _, .nil, e => by simp at e
  | _, _, 0, .cons (k := k) r _, _ => ⟨k, _, _, rfl, rfl, r⟩
  | _, _, i + 1, .cons _ t, e => by
    obtain ⟨k, u, x, h1, h2, h3⟩ := RepK.get (i := i) t (by simpa using e)
    exact ⟨k, u, x, by simpa using h1, by simpa using h2, h3⟩
theorem RepT.get : ∀ {v : List (List Key × V)} {d : List (List Key × D)} {i : Nat}, RepT K M H v d → i < d.length → ∃ k u x, v[i]? = some (k, u) ∧ d[i]? = some (k, x) ∧ Rep K M H u x
  | _, _, _, .nil, e => by simp at e
  | _, _, 0, .cons (k := k) r _, _ => ⟨k, _, _, rfl, rfl, r⟩
  | _, _, i + 1, .cons _ t, e => by
    obtain ⟨k, u, x, h1, h2, h3⟩ := RepT.get (i := i) t (by simpa using e)
    exact ⟨k, u, x, by simpa using h1, by simpa using h2, h3⟩
theorem it_keys {kvs : List (Key × V)} {kds : List (Key × D)} (hd : H a = some (.frz od (.dK kvs))) (n : ¬ M a) (r : RepK K M H kvs kds) : ItOk K M H (Itk a od kvs) (kds.map fun kv => kD kv.1) := fun M' H' k mok => by
  have h1 : H' a = some (.frz od (.dK kvs)) := (k.c a _ hd n fun _ z => nomatch z).1.eq fun z => z
  refine ⟨fun i d hi => ?_, h1, by rw [List.length_map, r.length]; exact Nat.le_refl _⟩
  rw [List.getElem?_map] at hi
  obtain ⟨⟨kk, x⟩, e, rfl⟩ := Option.map_eq_some_iff.mp hi
  have hl := (List.getElem?_eq_some_iff.mp e).1
  refine ⟨⟨h1, by rw [r.length]; exact hl⟩, fun y H'' z => ?_⟩
  obtain ⟨rfl, k2, v2, e2, rfl⟩ := z
  obtain ⟨k3, u3, x3, e3, e4, _⟩ := r.get hl
  rw [e2] at e3
  cases e3
  rw [e] at e4
  cases e4
  exact ⟨M', Step.refl, mok, kD_rep _⟩
theorem it_keysT {kvs : List (List Key × V)} {kds : List (List Key × D)} (hd : H a = some (.frz od (.dT kvs))) (n : ¬ M a) (r : RepT K M H kvs kds) : ItOk K M H (Itkt a od kvs) (kds.map fun kv => kT kv.1) := fun M' H' k mok => by
  have h1 : H' a = some (.frz od (.dT kvs)) := (k.c a _ hd n fun _ z => nomatch z).1.eq fun z => z
  refine ⟨fun i d hi => ?_, h1, by rw [List.length_map, r.length]; exact Nat.le_refl _⟩
  rw [List.getElem?_map] at hi
  obtain ⟨⟨kk, x⟩, e, rfl⟩ := Option.map_eq_some_iff.mp hi
  have hl := (List.getElem?_eq_some_iff.mp e).1
  refine ⟨⟨h1, by rw [r.length]; exact hl⟩, fun y H'' z => ?_⟩
  obtain ⟨rfl, k2, v2, q2, e2, rfl, hq⟩ := z
  obtain ⟨k3, u3, x3, e3, e4, _⟩ := r.get hl
  rw [e2] at e3
  cases e3
  rw [e] at e4
  cases e4
  exact ⟨M', Step.refl, mok, .tup hq (kDs_rep _)⟩
theorem it_vals {kvs : List (Key × V)} {kds : List (Key × D)} (hd : H a = some (.frz od (.dK kvs))) (n : ¬ M a) (r : RepK K M H kvs kds) : ItOk K M H (Itd a od kvs) (kds.map (·.2)) := fun M' H' k mok => by
  have h1 : H' a = some (.frz od (.dK kvs)) := (k.c a _ hd n fun _ z => nomatch z).1.eq fun z => z
  refine ⟨fun i d hi => ?_, h1, by rw [List.length_map, r.length]; exact Nat.le_refl _⟩
  rw [List.getElem?_map] at hi
  obtain ⟨⟨kk, x⟩, e, rfl⟩ := Option.map_eq_some_iff.mp hi
  have hl := (List.getElem?_eq_some_iff.mp e).1
  refine ⟨⟨h1, by rw [r.length]; exact hl⟩, fun y H'' z => ?_⟩
  obtain ⟨rfl, k2, e2⟩ := z
  obtain ⟨k3, u3, x3, e3, e4, ru⟩ := r.get hl
  rw [e2] at e3
  cases e3
  rw [e] at e4
  cases e4
  exact ⟨M', Step.refl, mok, ru.keep k⟩
theorem it_items {kvs : List (Key × V)} {kds : List (Key × D)} (hd : H a = some (.frz od (.dK kvs))) (n : ¬ M a) (r : RepK K M H kvs kds) : ItOk K M H (Iti a od kvs) (kds.map fun kv => .tup [kD kv.1, kv.2]) := fun M' H' k mok => by
  have h1 : H' a = some (.frz od (.dK kvs)) := (k.c a _ hd n fun _ z => nomatch z).1.eq fun z => z
  refine ⟨fun i d hi => ?_, h1, by rw [List.length_map, r.length]; exact Nat.le_refl _⟩
  rw [List.getElem?_map] at hi
  obtain ⟨⟨kk, x⟩, e, rfl⟩ := Option.map_eq_some_iff.mp hi
  have hl := (List.getElem?_eq_some_iff.mp e).1
  refine ⟨⟨h1, by rw [r.length]; exact hl⟩, fun y H'' z => ?_⟩
  obtain ⟨T, k2, v2, e2, rfl, hT, rfl⟩ := z
  obtain ⟨k3, u3, x3, e3, e4, ru⟩ := r.get hl
  rw [e2] at e3
  cases e3
  rw [e] at e4
  cases e4
  have R := ResOk.tup (K := K) mok hT (.cons (kD_rep kk) (.cons (ru.keep k) .nil))
  exact ⟨M', R.step, R.mok, R.res⟩
end
def keysS : D → Option (List D)
  | .dic kds => some (kds.map fun kv => kD kv.1)
  | .dit kds => some (kds.map fun kv => kT kv.1)
  | _ => none
def valsS : D → Option (List D)
  | .dic kds => some (kds.map (·.2))
  | _ => none
def itemsS : D → Option (List D)
  | .dic kds => some (kds.map fun kv => .tup [kD kv.1, kv.2])
  | _ => none
def iDicD (f : D → Option (List D)) (te : ET) : IT := fun ρ q x => te ρ (fun r ρ1 => some! (settle ρ1 r) fun z => some! (f z.1) fun ds => q ds z.2) x
section
variable {X : Cx} {p : Amb} {W : WX} {tg e : Expr} {te : ET} {apos cpos : Pos}
theorem di_keys (he : DE X p W e te) : DI X p W tg e (iDicD keysS te) := ⟨PI.imp (pi_keys (pe_freeze he.pe)) fun σ H R ⟨M, ρ, q, xq, S, h, hq, hx⟩ => by
  refine ⟨M, ρ, _, _, S, h, fun v M1 H1 ρ1 r P1 S1 R1 h1 => ?_, hx⟩
  obtain ⟨⟨d, ρ2⟩, e1, h2⟩ := some!_ok h1
  obtain ⟨M2, P2, S2, R2⟩ := settleN_ok S P1 R1 e1
  obtain ⟨ds, e2, h3⟩ := some!_ok h2
  cases R2 with
  | @dic a kvs kds hl n r =>
    cases e2
    refine ⟨a, _, rfl, hl, True.intro, fun od H2 fz => ?_⟩
    have st := fz.step n True.intro (M := M2)
    have mok2 : ∀ z, M2 z → H2 z ≠ none := fun z m => st.dom z (P2.sim.mok z m)
    have P3 := P2.sim.post st mok2
    exact ⟨a, od, rfl, .inl ⟨kvs, fz.at, hq _ M2 H2 ρ2 _ (P2.trans S P3) (it_keys fz.at n (r.keep (st.keep fun _ z => z.elim))) h3⟩⟩
  | @dit a kvs kds hl n r =>
    cases e2
    refine ⟨a, _, rfl, hl, True.intro, fun od H2 fz => ?_⟩
    have st := fz.step n True.intro (M := M2)
    have mok2 : ∀ z, M2 z → H2 z ≠ none := fun z m => st.dom z (P2.sim.mok z m)
    have P3 := P2.sim.post st mok2
    exact ⟨a, od, rfl, .inr ⟨kvs, fz.at, hq _ M2 H2 ρ2 _ (P2.trans S P3) (it_keysT fz.at n (r.keep (st.keep fun _ z => z.elim))) h3⟩⟩
  | _ => cases e2⟩
theorem di_values (he : DE X p W e te) (hbase : attributeBase e "values" X.env (eval e X.env) = eval e X.env := by rfl) (hline : (apos.endLine == cpos.line) = true := by rfl) : DI X p W tg (.Call (.Attribute e "values" apos) [] [] cpos) (iDicD valsS te) := ⟨PI.imp (pi_values (pe_freeze he.pe) hbase hline) fun σ H R ⟨M, ρ, q, xq, S, h, hq, hx⟩ => by
  refine ⟨M, ρ, _, _, S, h, fun v M1 H1 ρ1 r P1 S1 R1 h1 => ?_, hx⟩
  obtain ⟨⟨d, ρ2⟩, e1, h2⟩ := some!_ok h1
  obtain ⟨M2, P2, S2, R2⟩ := settleN_ok S P1 R1 e1
  obtain ⟨ds, e2, h3⟩ := some!_ok h2
  cases R2 with
  | @dic a kvs kds hl n r =>
    cases e2
    refine ⟨a, _, rfl, hl, True.intro, fun od H2 fz => ?_⟩
    have st := fz.step n True.intro (M := M2)
    have mok2 : ∀ z, M2 z → H2 z ≠ none := fun z m => st.dom z (P2.sim.mok z m)
    have P3 := P2.sim.post st mok2
    exact ⟨a, od, kvs, rfl, fz.at, hq _ M2 H2 ρ2 _ (P2.trans S P3) (it_vals fz.at n (r.keep (st.keep fun _ z => z.elim))) h3⟩
  | _ => cases e2⟩
theorem di_items {elts : List Expr} {kk : Nat} {tpos : Pos} (he : DE X p W e te) (hbase : attributeBase e "items" X.env (eval e X.env) = eval e X.env := by rfl) (hline : (apos.endLine == cpos.line) = true := by rfl) : DI X p W (.Tuple elts kk tpos) (.Call (.Attribute e "items" apos) [] [] cpos) (iDicD itemsS te) := ⟨PI.imp (pi_items (pe_freeze he.pe) hbase hline) fun σ H R ⟨M, ρ, q, xq, S, h, hq, hx⟩ => by
  refine ⟨M, ρ, _, _, S, h, fun v M1 H1 ρ1 r P1 S1 R1 h1 => ?_, hx⟩
  obtain ⟨⟨d, ρ2⟩, e1, h2⟩ := some!_ok h1
  obtain ⟨M2, P2, S2, R2⟩ := settleN_ok S P1 R1 e1
  obtain ⟨ds, e2, h3⟩ := some!_ok h2
  cases R2 with
  | @dic a kvs kds hl n r =>
    cases e2
    refine ⟨a, _, rfl, hl, True.intro, fun od H2 fz => ?_⟩
    have st := fz.step n True.intro (M := M2)
    have mok2 : ∀ z, M2 z → H2 z ≠ none := fun z m => st.dom z (P2.sim.mok z m)
    have P3 := P2.sim.post st mok2
    exact ⟨a, od, kvs, rfl, fz.at, hq _ M2 H2 ρ2 _ (P2.trans S P3) (it_items fz.at n (r.keep (st.keep fun _ z => z.elim))) h3⟩
  | _ => cases e2⟩
end
/-! ### {k: e} -/
theorem Post.touch {K : PySem.W.Frag} {p0 : Amb} {M M' : Addr → Prop} {σ σ' : L2.St} {H H' : Hp} {ρ ρ' : Ev} {p : Addr} {o : HO} (P : Post K p0 M σ H ρ M' σ' H' ρ') (hp : H p = none) (m : M' p) (nw : ¬ Wr σ' ρ' p) (nt : ∀ ps, H' p ≠ some (.tbl ps)) (ntp : ∀ xs, H' p ≠ some (.tup xs)) :
    Post K p0 M σ H ρ M' σ' (upd H' p o) ρ' := by
  refine ⟨mut_hot P.sim m nw nt ntp, ⟨fun a u e n t => ?_, P.step.sub, P.step.kp, fun a h => ?_, fun a xs e => ?_, fun a h => tab_upd nt a (P.step.tb a h)⟩, P.wr⟩
  · have ne : a ≠ p := fun z => by rw [z, hp] at e; cases e
    obtain ⟨f, g⟩ := P.step.fr a u e n t
    exact ⟨f.upd ne, fun m => (upd_ne ne).trans (g m)⟩
  · by_cases e : a = p
    · rw [e, upd_same]; exact fun z => nomatch z
    · rw [upd_ne e]; exact P.step.dom a h
  · have ne : a ≠ p := fun z => by rw [z, hp] at e; cases e
    exact (upd_ne ne).trans (P.step.tp a xs e)
def tDispK (tk tv : ET) : ET := fun ρ q x => tk ρ (fun r ρ1 => tv ρ1 (fun s ρ2 => some! (keyR ρ2 r) fun k => some! (settle ρ2 s) fun z => q (.n (.dic [(k, z.1)])) z.2) x) x
section
variable {X : Cx} {p : Amb} {W : WX} {k v : Expr} {tk tv : ET} {pos : Pos}
theorem de_dispK (hk : DE X p W k tk) (hv : DE X p W v tv) : DE X p W (.Dict [some k] [v] pos) (tDispK tk tv) :=
  ⟨PE.imp (pe_disp (pps_cons hk.pe hv.pe pps_nil) (by rfl) (by rfl) (fun z => by cases z) (by show 1 ≤ 15; decide)) fun σ H Q ⟨M, ρ, q, xq, S, ht, hq, hx⟩ => fun a ha => by
    obtain ⟨P0, R0⟩ := (ResOk.dic (K := X.K) (xs := []) (ds := []) S.mok ha .nil).fin S (Post.refl S)
    obtain ⟨a', ea, m0, nw0, _, ⟨xs0, hx0, r0⟩⟩ := R0
    cases ea
    cases r0
    refine ⟨_, ρ, _, _, P0.sim, ht, fun v M1 H1 ρ1 r P1 S1 R1 h1 => ?_, fun c M1 H1 ρ1 P1 h1 => hx c M1 H1 ρ1 (P0.trans S P1) h1⟩
    refine ⟨M1, ρ1, _, _, P1.sim, h1, fun y M2 H2 ρ2 s P2 S2 R2 h2 => ?_, fun c M2 H2 ρ2 P2 h2 => hx c M2 H2 ρ2 (P0.trans S (P1.trans P0.sim P2)) h2⟩
    have P12 := P1.trans P0.sim P2
    obtain ⟨key, ek, h3⟩ := some!_ok h2
    obtain ⟨dk, e3, e4⟩ := Option.bind_eq_some_iff.mp ek
    obtain rfl := keyD_ok (rd_ok P2.sim (R1.post P1.sim P2 S2) e3) e4
    obtain ⟨⟨d, ρ3⟩, e5, h4⟩ := some!_ok h3
    obtain ⟨M3, P3, S3, R3⟩ := settleN_ok P0.sim P12 (R2.back P1.step.dom) e5
    have m3 : M3 a := P3.step.kp a m0 nw0
    have ea : H2 a = some (.dK []) := (P3.step.fr a _ upd_same nw0 fun _ z => nomatch z).2 m0
    have nw3 : ¬ Wr σ ρ3 a := fun z => (P3.wr a z).elim nw0 fun z => by rw [upd_same] at z; cases z
    have P4 := (P0.trans S P3).touch (o := .dK (putK [] key y)) ha m3 nw3 (fun _ z => by rw [ea] at z; cases z) (fun _ z => by rw [ea] at z; cases z)
    have kk : Keep M3 H2 M3 (upd H2 a (.dK (putK [] key y))) := ⟨fun b w e n _ => ⟨.inl (by rw [upd_cold m3 n]; exact e), n⟩, fun b xs e => (upd_ne (fun z => by rw [z, ea] at e; cases e)).trans e⟩
    refine ⟨ea, [(key, y)], rfl, by show 1 ≤ 15; decide, ?_⟩
    exact hq (.ref a) M3 _ ρ3 (.n (.dic [(key, d)])) P4 trivial ⟨a, rfl, m3, nw3, ha, ⟨_, upd_same, .cons (R3.keep kk) .nil⟩⟩ h4⟩
end
/-! ### dict(xs) of a list of pairs; len of a dict -/
def mergeD (kds more : List (Key × D)) : List (Key × D) := more.foldl (fun acc kv => putD acc kv.1 kv.2) kds
def mergeT (kds more : List (List Key × D)) : List (List Key × D) := more.foldl (fun acc kv => putT acc kv.1 kv.2) kds
theorem RepK.merge {K : PySem.W.Frag} {M : Addr → Prop} {H : Hp} : ∀ (w : List (Key × V)) (e : List (Key × D)) {v : List (Key × V)} {d : List (Key × D)}, RepK K M H w e → RepK K M H v d → RepK K M H (mergeK v w) (mergeD d e)
  | _, _, _, _, .nil, r => r
  | (k, u) :: w, (_, x) :: e, v, d, .cons s t, r => by
    have := RepK.merge w e t (RepK.put (k := k) s r)
    exact this
theorem RepT.merge {K : PySem.W.Frag} {M : Addr → Prop} {H : Hp} : ∀ (w : List (List Key × V)) (e : List (List Key × D)) {v : List (List Key × V)} {d : List (List Key × D)}, RepT K M H w e → RepT K M H v d → RepT K M H (w.foldl (fun acc kv => putK acc kv.1 kv.2) v) (mergeT d e)
  | _, _, _, _, .nil, r => r
  | (k, u) :: w, (_, x) :: e, v, d, .cons s t, r => by
    have := RepT.merge w e t (RepT.put (k := k) s r)
    exact this
def fDictK : List D → (RV → Prop) → Prop := fun ds q => match ds with
  | [.lst ds] => ∃ kds : List (Key × D), ds = kds.map (fun kv => .tup [kD kv.1, kv.2]) ∧ q (.n (.dic (mergeD [] kds)))
  | _ => False
theorem dictK_pairs {K : PySem.W.Frag} {M : Addr → Prop} {H : Hp} : ∀ {kds : List (Key × D)} {vs : List V}, RepL K M H vs (kds.map fun kv => .tup [kD kv.1, kv.2]) →
    ∃ (ps : List Addr) (kvs : List (Key × V)), vs = ps.map V.ref ∧ Paired (fun p kv => SqT K H p [kV kv.1, kv.2]) ps kvs ∧ RepK K M H kvs kds
  | [], _, .nil => ⟨[], [], rfl, .nil, .nil⟩
  | kd :: kds, _, .cons r t => by
    obtain ⟨ps, kvs, rfl, pp, rr⟩ := dictK_pairs t
    cases r with
    | @tup a xs _ s rl =>
      cases rl with
      | cons r1 t1 =>
        cases t1 with
        | cons r2 t2 =>
          cases t2
          rename_i v1 v2
          obtain rfl := keyD_ok (.inl r1) (keyD_k kd.1)
          exact ⟨a :: ps, (kd.1, v2) :: kvs, rfl, .cons (SqTM.sq (M := M) s) pp, .cons r2 rr⟩
theorem dictK_ok {K : PySem.W.Frag} : RCD K (fun xs H Q => ∃ (a : Addr) (ps : List Addr) (kvs : List (Key × V)), xs = [.ref a] ∧ SqL K H a (ps.map V.ref) ∧ Paired (fun p kv => SqT K H p [kV kv.1, kv.2]) ps kvs ∧
    ∀ p, H p = none → Q (.ref p) (upd H p (.dK (mergeK [] kvs)))) fDictK := by
  intro M H vs ds Q q mok r h k
  unfold fDictK at h
  split at h
  · obtain ⟨v, rfl, s⟩ := r.one
    obtain ⟨kds, rfl, h⟩ := h
    obtain ⟨a, xs, rfl, hx, rl⟩ := s.lst
    obtain ⟨ps, kvs, rfl, pp, rr⟩ := dictK_pairs rl
    exact ⟨a, ps, kvs, rfl, SqL.of hx, pp, fun l hl => k _ _ _ _ (ResOk.dic mok hl (RepK.merge _ _ rr .nil)) h⟩
  · exact h.elim
def fLenD : List D → (RV → Prop) → Prop := fun ds q => match ds with
  | [.dic kds] => q (.d (.int (kds.length : Int)))
  | [.dit kds] => q (.d (.int (kds.length : Int)))
  | _ => False
/-! dict(xs) with tuple keys -/
theorem pairsT_of {X : Cx} {pins : List (Addr × Obj)} {σ : L2.St} {H : Hp} {s : Shared} (I : L2.Inv X pins σ H s) : ∀ {ps : List Addr} {kvs : List (List Key × V)}, Paired (fun p kv => ∃ b, SqT X.K H p [.ref b, kv.2] ∧ H b = some (.tup (kv.1.map kV))) ps kvs →
    ∃ xs : List (List Key × Addr × Value), KT H kvs xs ∧ xs.length = ps.length ∧ ∀ (j : Nat) (q : List Key × Addr × Value), xs[j]? = some q → ∃ b : Addr, ps[j]? = some b ∧ IsTup s.heap b #[.ref q.2.1, q.2.2]
  | _, _, .nil => ⟨[], .nil, rfl, fun j q e => by simp at e⟩
  | _, _, .cons (a := p) (b := kv) ⟨b, h, hb⟩ t => by
    obtain ⟨xs, r, hl, hp⟩ := pairsT_of I t
    obtain ⟨its, rv, ht, _⟩ := I.tuple h
    obtain ⟨u, y, ei, ru, ry⟩ := vals2 rv
    subst ei
    cases (show u = Value.ref b from ru)
    refine ⟨(kv.1, b, y) :: xs, .cons ⟨rfl, hb, ry⟩ r, by rw [List.length_cons, List.length_cons, hl], fun j q e => ?_⟩
    cases j with
    | zero =>
      have e' : (kv.1, b, y) = q := Option.some.inj e
      subst e'
      exact ⟨p, rfl, ht⟩
    | succ j =>
      obtain ⟨b', e1, e2⟩ := hp j q (by simpa using e)
      exact ⟨b', by simpa using e1, e2⟩
theorem KT.mergeH {H : Hp} : ∀ (kvs : List (List Key × V)) (xs : List (List Key × Addr × Value)) {kvs0 : List (List Key × V)} {xs0 : List (List Key × Addr × Value)}, KT H kvs xs → KT H kvs0 xs0 → KT H (kvs.foldl (fun acc kv => putK acc kv.1 kv.2) kvs0) (storedAllH xs0 xs)
  | _, _, _, _, .nil, r => r
  | (k, v) :: kvs, (k2, b, y) :: xs, kvs0, xs0, .cons h t, r => by
    obtain ⟨h1, h2, h3⟩ := h
    have h1 : k = k2 := h1
    subst h1
    have := KT.mergeH kvs xs t (L2.KT.put r k h2 h3)
    exact this
theorem foldl_putK_len : ∀ (more kvs : List (List Key × V)), (more.foldl (fun acc kv => putK acc kv.1 kv.2) kvs).length ≤ kvs.length + more.length
  | [], kvs => by simp
  | p :: r, kvs => by
    have h1 := foldl_putK_len r (putK kvs p.1 p.2)
    have h2 := length_putK kvs p.1 p.2
    rw [List.foldl_cons, List.length_cons]
    omega
def rDictT (K : PySem.W.Frag) : List V → Hp → VK → Prop := fun xs H Q => ∃ (a : Addr) (ps : List Addr) (kvs : List (List Key × V)), xs = [.ref a] ∧ SqL K H a (ps.map V.ref) ∧ Paired (fun p kv => ∃ b, SqT K H p [.ref b, kv.2] ∧ H b = some (.tup (kv.1.map kV))) ps kvs ∧
    ∀ p, H p = none → Q (.ref p) (upd H p (.dT (kvs.foldl (fun acc kv => putK acc kv.1 kv.2) [])))
theorem call_dictT {X : Cx} {k : Nat} (hr : Room k X.A) : CallR X (.type "dict") (rDictT X.K) := by
  intro pins s σ H xs us Q I r q
  obtain ⟨a, ps, kvs, ex, hq, hp, q⟩ := q
  subst ex
  obtain ⟨u, eu, rx⟩ := vals1 r
  subst eu
  cases rx
  obtain ⟨its, rv, ⟨ol, nl, hl1, hl2, hl3, hl4⟩, hz⟩ := I.list hq
  have ei := refs_at rv
  subst ei
  rw [List.length_map] at hz
  obtain ⟨zs, kt, hlen, hpr⟩ := pairsT_of I hp
  have un := hr.un
  let prs : List (Value × Value) := zs.map fun z => (Value.ref z.2.1, z.2.2)
  have hpl : prs.length = zs.length := List.length_map ..
  have gets : ∀ (i : Nat) (q : Value × Value), prs[i]? = some q → ∃ z : List Key × Addr × Value, zs[i]? = some z ∧ q = (Value.ref z.2.1, z.2.2) := fun i q e => by
    rw [List.getElem?_map] at e
    obtain ⟨z, e1, e2⟩ := Option.map_eq_some_iff.mp e
    exact ⟨z, e1, e2.symm⟩
  have isK : ∀ h' : Heap, (∀ b o, b ≠ s.heap.objs.size → b ∉ ([] : List Addr) → s.heap.get? b = some o → h'.get? b = some o) → ∀ x ∈ zs, (tupleKind (mixKind X.prog X.w)).is h' x.1 x.2.1 := fun h' hk x hx => by
    have : ∀ {l : List (List Key × V)} {m : List (List Key × Addr × Value)}, KT H l m → ∀ x ∈ m, H x.2.1 = some (.tup (x.1.map kV)) := by
      intro l m r
      induction r with
      | nil => intro x hx; exact nomatch hx
      | @cons p q ps qs hq t ih =>
        intro x hx
        rcases List.mem_cons.mp hx with e | hx
        · subst e; rw [← hq.1]; exact hq.2.1
        · exact ih x hx
    have hx := key_of (P := X.prog) (w := X.w) I.hok (this kt x hx)
    obtain ⟨o, its, n, h1, h2, h3, h4⟩ := hx
    exact ⟨o, its, n, hk _ _ (Nat.ne_of_lt (Heap.lt_size h1)) (by simp) h1, h2, h3, h4⟩
  refine call_dict_pairsH (knd := tupleKind (mixKind X.prog X.w)) (ps := zs) (PairArg.list a (ps.map Value.ref).toArray (fun j => (ps[j]?).getD 0) prs) hr.hd (by show X.A.units + 1 + 1 < cLine; omega) ⟨⟨ol, nl, hl1, hl2, hl3, hl4⟩, by simp [hpl, hlen], fun j k v e => ?_⟩ ⟨hpl.symm, fun i key v e => ?_⟩ isK (by rw [hpl, hlen]; exact hz) fun h' tk hd' k => ?_
  · obtain ⟨z, e1, e2⟩ := gets j _ e
    obtain ⟨b, e3, e4⟩ := hpr j z e1
    cases e2
    refine ⟨by simp [e3], .inl ?_⟩
    show s.heap.IsTuple ((ps[j]?).getD 0) _
    rw [e3]
    obtain ⟨o, g1, g2, n, g3⟩ := e4
    exact ⟨o, g1, g2, n, g3⟩
  · obtain ⟨z, e1, e2⟩ := gets i _ e
    cases e2
    exact ⟨z.1, z.2.1, e1, rfl⟩
  · have hm : (s.heap.objs.size == sysModules) = false := beq_eq_false_iff_ne.mpr (Nat.ne_of_gt I.big)
    have hn := I.hok.fresh (Nat.le_refl s.heap.objs.size)
    have ktm := KT.mergeH kvs zs kt (kvs0 := []) (xs0 := []) .nil
    have hlen2 : (kvs.foldl (fun acc kv => putK acc kv.1 kv.2) []).length ≤ sizeLine := by
      have h1 := foldl_putK_len kvs []
      have h2 := Paired.length kt
      rw [List.length_nil] at h1
      omega
    obtain ⟨o, es, ep, d1, d2, d3, d4, d5, d6⟩ := hd'
    have new : ObjOk X.prog X.w (upd H s.heap.objs.size (.dT (kvs.foldl (fun acc kv => putK acc kv.1 kv.2) []))) h' s.heap.objs.size (.dT (kvs.foldl (fun acc kv => putK acc kv.1 kv.2) [])) :=
      ⟨hlen2, hm, _, ktm.keeps fun b ys e => by rw [upd_ne (ne_of_none e hn)]; exact e, o, es, ep, d1, d2, d3, d4, d6⟩
    exact ⟨.ref s.heap.objs.size, _, I.laid (t' := tk) (fun b o e => k b o (by simp) e) (Nat.le_refl _) new, rfl, q _ hn⟩
def fDictT : List D → (RV → Prop) → Prop := fun ds q => match ds with
  | [.lst ds] => ∃ kds : List (List Key × D), ds = kds.map (fun kv => .tup [kT kv.1, kv.2]) ∧ q (.n (.dit (mergeT [] kds)))
  | _ => False
theorem dictT_pairs {K : PySem.W.Frag} {M : Addr → Prop} {H : Hp} : ∀ {kds : List (List Key × D)} {vs : List V}, RepL K M H vs (kds.map fun kv => .tup [kT kv.1, kv.2]) →
    ∃ (ps : List Addr) (kvs : List (List Key × V)), vs = ps.map V.ref ∧ Paired (fun p kv => ∃ b, SqT K H p [.ref b, kv.2] ∧ H b = some (.tup (kv.1.map kV))) ps kvs ∧ RepT K M H kvs kds
  | [], _, .nil => ⟨[], [], rfl, .nil, .nil⟩
  | kd :: kds, _, .cons r t => by
    obtain ⟨ps, kvs, rfl, pp, rr⟩ := dictT_pairs t
    cases r with
    | @tup a xs _ s rl =>
      cases rl with
      | cons r1 t1 =>
        cases t1 with
        | cons r2 t2 =>
          cases t2
          rename_i v1 v2
          obtain ⟨b, rfl, hb⟩ := keyT_ok (.inl r1) (keyT_k kd.1)
          exact ⟨a :: ps, (kd.1, v2) :: kvs, rfl, .cons ⟨b, SqTM.sq (M := M) s, hb⟩ pp, .cons r2 rr⟩
theorem dictT_ok {K : PySem.W.Frag} : RCD K (rDictT K) fDictT := by
  intro M H vs ds Q q mok r h k
  unfold fDictT at h
  split at h
  · obtain ⟨v, rfl, s⟩ := r.one
    obtain ⟨kds, rfl, h⟩ := h
    obtain ⟨a, xs, rfl, hx, rl⟩ := s.lst
    obtain ⟨ps, kvs, rfl, pp, rr⟩ := dictT_pairs rl
    exact ⟨a, ps, kvs, rfl, SqL.of hx, pp, fun l hl => k _ _ _ _ (ResOk.dit mok hl (RepT.merge _ _ rr .nil)) h⟩
  · exact h.elim
section
variable {X : Cx} {p : Amb} {W : WX} {a : Expr} {ta : ET} {pos pos' : Pos}
theorem de_dictT {k : Nat} (hr : Room k X.A) (hm : X.mg "dict" = none) (ha : DE X p W a ta) (hg : Gl X "dict" := by rfl) (he : starEach [a] X.env = (false, eval a X.env) :: starEach [] X.env := by rfl) : DE X p W (.Call (.Name "dict" pos') [a] [] pos) (tC' fDictT (aCons ta aNil)) := de_callTy (call_dictT hr) dictT_ok hg hm (by decide +kernel) (da_cons ha da_nil he) (by decide) (by decide) he rfl
theorem de_dictK (hc : X.calm = true) (hm : X.mg "dict" = none) (ha : DE X p W a ta) (hg : Gl X "dict" := by rfl) (he : starEach [a] X.env = (false, eval a X.env) :: starEach [] X.env := by rfl) : DE X p W (.Call (.Name "dict" pos') [a] [] pos) (tC' fDictK (aCons ta aNil)) := de_callTy (call_dictP hc) dictK_ok hg hm (by decide +kernel) (da_cons ha da_nil he) (by decide) (by decide) he rfl
end
def rLenD : List V → Hp → VK → Prop := fun xs H Q => ∃ p, xs = [.ref p] ∧ ((∃ kvs : List (Key × V), Rd H p (.dK kvs) ∧ Q (.int (kvs.length : Int)) H) ∨ ∃ kvs : List (List Key × V), Rd H p (.dT kvs) ∧ Q (.int (kvs.length : Int)) H)
theorem call_lenD2 {X : Cx} : CallR X (.builtin "len") rLenD := by
  intro pins s σ H xs us Q I r h
  obtain ⟨p, rfl, h⟩ := h
  obtain ⟨u, rfl, rx⟩ := vals1 r
  obtain rfl : u = .ref p := rx
  rcases h with ⟨kvs, hp, q⟩ | ⟨kvs, hp, q⟩
  · obtain ⟨z, hd, vs, rel, dd⟩ := dk_rd I.hok hp
    have hl : kvs.length = vs.length := L2.KV.length rel
    refine call_len_dict hd dd (by rw [← hl]; rw [sizeLine_eq] at z; omega) ?_
    rw [← hl]
    exact ⟨.int ((kvs.length : Nat) : Int), H, I.tok _, ⟨_, rfl⟩, q⟩
  · obtain ⟨z, hd, ys, rel, dd⟩ := dt_rd I.hok hp
    have hl : kvs.length = ys.length := Paired.length rel
    refine call_len_dictH hd dd (by rw [← hl]; rw [sizeLine_eq] at z; omega) ?_
    rw [← hl]
    exact ⟨.int ((kvs.length : Nat) : Int), H, I.tok _, ⟨_, rfl⟩, q⟩
theorem lenD_ok {K : PySem.W.Frag} : RCD K rLenD fLenD := by
  intro M H vs ds Q q mok r h k
  unfold fLenD at h
  split at h
  · obtain ⟨v, rfl, s⟩ := r.one
    obtain ⟨a, xs, rfl, hx, t⟩ := s.dic
    refine ⟨a, rfl, .inl ⟨xs, hx, ?_⟩⟩
    rw [t.length]
    exact k _ M H _ (ResOk.same mok (.int _)) h
  · obtain ⟨v, rfl, s⟩ := r.one
    obtain ⟨a, xs, rfl, hx, t⟩ := s.dit
    refine ⟨a, rfl, .inr ⟨xs, hx, ?_⟩⟩
    rw [t.length]
    exact k _ M H _ (ResOk.same mok (.int _)) h
  · exact h.elim
theorem de_lenD {X : Cx} {p : Amb} {W : WX} {a : Expr} {ta : ET} {pos pos' : Pos} (hm : X.mg "len" = none) (ha : DE X p W a ta) (hg : Gl X "len" := by rfl) (he : starEach [a] X.env = (false, eval a X.env) :: starEach [] X.env := by rfl) : DE X p W (.Call (.Name "len" pos') [a] [] pos) (tC' fLenD (aCons ta aNil)) := de_callB call_lenD2 lenD_ok hg hm PySem.boot_len (da_cons ha da_nil he) (by decide) (by decide) he rfl
section
variable {ρ : Ev} {q : EK} {x : XQ} {q1 : RV → Prop} {xs : List D} {ds : List (Key × D)} {dt : List (List Key × D)} {d y : D} {n : Nat} {i : Int} {neg : Bool} {ta tb tc : ET}
theorem tDNewT_ : tDNewT ρ q x = q (.n (.dit [])) ρ := rfl
theorem gSetT_ {to ti : ET} {qg : Ev → Prop} : gSetT to ti d ρ qg = to ρ (fun r ρ1 => ti ρ1 (fun s ρ2 => some! (ownT ρ2 r) fun a => some! (keyRT ρ2 s) fun k => a.2.length < sizeLine ∧ qg (put a.1 (.dit (putT a.2 k d)) ρ2)) fun _ _ => False) fun _ _ => False := rfl
theorem ownT_o : ownT ρ (.o n) = match ownS ρ[n]? with | some (.dit xs) => some (n, xs) | _ => none := rfl
theorem keyRT_ {r : RV} : keyRT ρ r = (rd ρ r).bind keyT := rfl
theorem keyT_t : keyT (.tup xs) = keyDs xs := rfl
theorem keyDs_n : keyDs [] = some [] := rfl
theorem keyDs_c : keyDs (d :: xs) = (keyD d).bind fun k => (keyDs xs).map (k :: ·) := rfl
theorem tGet2_ : tGet2 ta tb tc ρ q x = ta ρ (fun r ρ1 => isDic (rd ρ1 r) ∧ tb ρ1 (fun s ρ2 => tc ρ2 (fun u ρ3 => some! (getK (rd ρ3 r) (rd ρ3 s)) fun o => pick o (fun z => q z ρ3) u) x) x) x := rfl
theorem tGet1_ : tGet1 ta tb ρ q x = ta ρ (fun r ρ1 => isDic (rd ρ1 r) ∧ tb ρ1 (fun s ρ2 => some! (getK (rd ρ2 r) (rd ρ2 s)) fun o => pick o (fun z => q z ρ2) (.d .non)) x) x := rfl
theorem isDic_k : isDic (some (.dic ds)) = True := rfl
theorem isDic_t : isDic (some (.dit dt)) = True := rfl
theorem getK_k : getK (some (.dic ds)) (some d) = (keyD d).map (valD ds) := rfl
theorem getK_t : getK (some (.dit dt)) (some d) = (keyT d).map (valT dt) := rfl
theorem pick_s {z : RV} : pick (some d) q1 z = q1 (.d d) := rfl
theorem pick_n {z : RV} : pick none q1 z = q1 z := rfl
theorem iDicD_ {f : D → Option (List D)} {qi : List D → Ev → Prop} : iDicD f ta ρ qi x = ta ρ (fun r ρ1 => some! (settle ρ1 r) fun z => some! (f z.1) fun ds => qi ds z.2) x := rfl
theorem keysS_k : keysS (.dic ds) = some (ds.map fun kv => kD kv.1) := rfl
theorem keysS_t : keysS (.dit dt) = some (dt.map fun kv => kT kv.1) := rfl
theorem valsS_k : valsS (.dic ds) = some (ds.map (·.2)) := rfl
theorem itemsS_k : itemsS (.dic ds) = some (ds.map fun kv => .tup [kD kv.1, kv.2]) := rfl
theorem tDispK_ : tDispK ta tb ρ q x = ta ρ (fun r ρ1 => tb ρ1 (fun s ρ2 => some! (keyR ρ2 r) fun k => some! (settle ρ2 s) fun z => q (.n (.dic [(k, z.1)])) z.2) x) x := rfl
theorem fDictK_ : fDictK [.lst xs] q1 = ∃ kds : List (Key × D), xs = kds.map (fun kv => .tup [kD kv.1, kv.2]) ∧ q1 (.n (.dic (mergeD [] kds))) := rfl
theorem fDictT_ : fDictT [.lst xs] q1 = ∃ kds : List (List Key × D), xs = kds.map (fun kv => .tup [kT kv.1, kv.2]) ∧ q1 (.n (.dit (mergeT [] kds))) := rfl
theorem fLenD_k : fLenD [.dic ds] q1 = q1 (.d (.int (ds.length : Int))) := rfl
theorem fLenD_t : fLenD [.dit dt] q1 = q1 (.d (.int (dt.length : Int))) := rfl
theorem mergeD_nodup : ∀ (more kds : List (Key × D)), ((kds ++ more).map (·.1)).Nodup → mergeD kds more = kds ++ more
  | [], kds, _ => by rw [List.append_nil]; rfl
  | kv :: more, kds, h => by
    have e : kds ++ kv :: more = (kds ++ [kv]) ++ more := by rw [List.append_assoc]; rfl
    have np : kds.any (fun z => decide (z.1 = kv.1)) = false := by
      rw [List.any_eq_false]
      intro z hz
      rw [decide_eq_true_eq]
      intro ez
      rw [List.map_append, List.map_cons, List.nodup_append] at h
      exact h.2.2 z.1 (List.mem_map.mpr ⟨z, hz, rfl⟩) kv.1 List.mem_cons_self ez
    have p : putD kds kv.1 kv.2 = kds ++ [kv] := by
      unfold putD
      rw [np]
      exact if_neg Bool.false_ne_true
    rw [e] at h ⊢
    have := mergeD_nodup more (kds ++ [kv]) h
    rw [← this, ← p]
    rfl
theorem mergeT_nodup : ∀ (more kds : List (List Key × D)), ((kds ++ more).map (·.1)).Nodup → mergeT kds more = kds ++ more
  | [], kds, _ => by rw [List.append_nil]; rfl
  | kv :: more, kds, h => by
    have e : kds ++ kv :: more = (kds ++ [kv]) ++ more := by rw [List.append_assoc]; rfl
    have np : kds.any (fun z => decide (z.1 = kv.1)) = false := by
      rw [List.any_eq_false]
      intro z hz
      rw [decide_eq_true_eq]
      intro ez
      rw [List.map_append, List.map_cons, List.nodup_append] at h
      exact h.2.2 z.1 (List.mem_map.mpr ⟨z, hz, rfl⟩) kv.1 List.mem_cons_self ez
    have p : putT kds kv.1 kv.2 = kds ++ [kv] := by
      unfold putT
      rw [np]
      exact if_neg Bool.false_ne_true
    rw [e] at h ⊢
    have := mergeT_nodup more (kds ++ [kv]) h
    rw [← this, ← p]
    rfl
end
theorem rgC0 {n c : Nat} (hc : 1 ≤ c) (hc2 : c < 1000000) (h2 : n < 1000000000) : RgC 0 (n : Int) c ((n + c - 1) / c) := by
  have hq : (n + c - 1) / c ≤ n + c - 1 := Nat.div_le_self _ _
  have e : Builtin.Range.rangeSize 0 (n : Int) c = (((n + c - 1) / c : Nat) : Int) := by
    unfold Builtin.Range.rangeSize
    rw [if_pos (by omega)]
    by_cases hn : (0 : Int) < n
    · rw [if_pos hn, Int.natCast_ediv]
      have : (((n + c - 1 : Nat) : Int)) = (n : Int) - 0 - 1 + c := by omega
      rw [this, Int.add_ediv_of_dvd_right (Int.dvd_refl _), Int.ediv_self (by omega)]
    · rw [if_neg hn]
      have : n = 0 := by omega
      subst this
      rw [Nat.div_eq_of_lt (by omega)]
      rfl
  refine ⟨by omega, by omega, ?_, e⟩
  unfold Builtin.Range.small
  rw [e]
  generalize (n + c - 1) / c = m at *
  rw [if_pos (by omega)]
  unfold Builtin.Range.rangeFitsLong
  have d1 : decide (-2 ^ 63 ≤ (n : Int)) = true := decide_eq_true (by omega)
  have d2 : decide ((n : Int) < 2 ^ 63) = true := decide_eq_true (by omega)
  have d3 : decide (-2 ^ 63 ≤ (m : Int)) = true := decide_eq_true (by omega)
  have d4 : decide ((m : Int) < 2 ^ 63) = true := decide_eq_true (by omega)
  have d5 : decide (-2 ^ 63 ≤ (n : Int) + ((c : Int) - 1)) = true := decide_eq_true (by omega)
  have d6 : decide ((n : Int) + ((c : Int) - 1) < 2 ^ 63) = true := decide_eq_true (by omega)
  have d7 : decide (-2 ^ 63 ≤ (0 : Int)) = true := by decide
  have d8 : decide ((0 : Int) < 2 ^ 63) = true := by decide
  have d9 : decide (-2 ^ 63 ≤ (c : Int)) = true := decide_eq_true (by omega)
  have d10 : decide ((c : Int) < 2 ^ 63) = true := decide_eq_true (by omega)
  rw [d1, d2, d3, d4, d5, d6, d7, d8, d9, d10]
  exact Bool.or_true _
end DL

local macro_rules | `(tactic| walk_at "dl") => `(tactic| (simp (config := { failIfUnchanged := false, dsimp := false }) only [↓DL.sNext_, ↓DL.sSeq_, ↓DL.sBreak_, ↓DL.sCont_, ↓DL.sExpr_, ↓DL.sRet_, ↓DL.sRetN_, ↓DL.sIf_, ↓DL.sSet_, ↓DL.sAug_, ↓DL.sPar_, ↓DL.sPar3_, ↓DL.sPar4_, ↓DL.sAsg_, ↓DL.sRaise_, ↓DL.sTryW_, ↓DL.sFor_, ↓DL.sWhile_, ↓DL.tLc_, ↓DL.tK_, ↓DL.tV_, ↓DL.t2_, ↓DL.t1_, ↓DL.tT_, ↓DL.tTr_, ↓DL.tCh_, ↓DL.tCh3_, ↓DL.tDNewT_, ↓DL.gSetT_, ↓DL.tGet2_, ↓DL.tGet1_, ↓DL.iDicD_, ↓DL.tDispK_, ↓DL.bAnd_, ↓DL.bOr_, ↓DL.bNot_, ↓DL.bYes_, ↓DL.tAnd_, ↓DL.tOr_, ↓DL.tNot_, ↓DL.tIf_, ↓DL.aNil_, ↓DL.aCons_, ↓DL.tC_, ↓DL.tTup_, ↓DL.tLst_, ↓DL.tCall_, ↓DL.tCallIO_, ↓DL.tAppend_, ↓DL.tPop_, ↓DL.tDNew_, ↓DL.gSetD_, ↓DL.tIndex_, ↓DL.oNone_, ↓DL.oSome_, ↓DL.tSl_, ↓DL.iSeqD_, ↓DL.iR1_, ↓DL.iR2_, ↓DL.iR3_, ↓DL.gVar_, ↓DL.gTup_, ↓DL.gsNil_, ↓DL.gsCons_, ↓DL.gSetL_, ↓DL.sm_, ↓DL.fm1_, ↓DL.fm2_, ↓DL.br_, DL.sm_some, DL.fm1_some, DL.fm2_some, DL.br_true, DL.br_false, DL.br_not, DL.ioR_, DL.rd_d, DL.rd_n, DL.rd_o, DL.rdS_va, DL.rdS_ow, DL.rdS_io, DL.slR_va, DL.slR_ow, DL.slR_io, DL.blR_, DL.intR_, DL.cool_d, DL.cool_n', DL.cool_o, DL.rdL_nil, DL.rdL_c, DL.settle_d, DL.settle_n, DL.settle_o, DL.settleS_va, DL.settleS_ow, DL.settleL_nil, DL.settleL_c, DL.store_d, DL.store_n, DL.store_o, DL.storeS_ow, DL.retR_d, DL.retR_n, DL.retR_o, DL.retS_ow, DL.ripe_d, DL.ripe_n, DL.ownL_o, DL.ownS_ow, DL.ownK_o, DL.keyR_, DL.keyD_i, DL.keyD_s, DL.fIn_l, DL.fIn_t, DL.fIn_f, DL.fInD_, DL.fIxD_, DL.fLRg_, DL.isLst_l, DL.isLst_f, DL.fIndex_l, DL.fSl_l, DL.fSl_t, DL.flatD_i, DL.flatD_s, Option.bind_some, DL.ownS_io, DL.put_, DL.putS_ow, DL.putS_io, DL.seqS_lst, DL.seqS_tup, DL.seqS_fz, DL.ioS_io, DL.fI_, DL.fI0_, DL.fAdd_i, DL.fAdd_l, DL.fMul_i, DL.fMul_l, DL.fIx_l, DL.fIx_t, DL.fIx_f, DL.fNeg_, DL.fLen_l, DL.fLen_t, DL.fLen_f, DL.fAbs_, DL.fInt1_i, DL.fInt1_b, DL.fInts2_, DL.fTuple_l, DL.fTuple_t, DL.fList_l, DL.fList_t, DL.fList_f, DL.fLRev_, DL.fDivmod_, DL.fGcd_, DL.ripe_o, DL.fIsi_, DL.fIs_n, DL.fEq_i, DL.fEq_b, DL.fNe_i, DL.fNe_b, DL.fEq_t, DL.fEq_l, DL.fNe_l, DL.fNe_t, DL.fEq_s, DL.truD_b, DL.truD_i, DL.truD_n, DL.isD, DL.isNon, DL.startE, DL.startIO, ↓DL.iStrD_, ↓DL.tStrM_, ↓DL.tDisp1_, DL.fMulS_, DL.fNe_s, DL.isStr_, DL.fEndsW_, DL.fJoin_, DL.fLen_s, DL.fAdd_s, DL.fIx_s, DL.fSl_s, DL.fSumA_, DL.fMaxA_, DL.fMinA_, DL.fSorted_, DL.fSortedT_, ↓DL.iEnumD_, ↓DL.tLRg3_, DL.fMul_t, DL.fIs_b, DL.fIx_st, DL.fLen_st, DL.seqS_st, DL.fIn_st, DL.rowI_st, DL.fInD_t, DL.fIxD_t, DL.ownT_o, DL.keyRT_, DL.keyT_t, DL.keyDs_n, DL.keyDs_c, DL.isDic_k, DL.isDic_t, DL.getK_k, DL.getK_t, DL.pick_s, DL.pick_n, DL.keysS_k, DL.keysS_t, DL.valsS_k, DL.itemsS_k, DL.fDictK_, DL.fDictT_, DL.fLenD_k, DL.fLenD_t, Option.map_some, DL.rowI_l, DL.rowI_t, DL.rowI_f, DL.atI_0, DL.atI_1, DL.atI_2, DL.atI_3, DL.atI_4, DL.atI_5, DL.atI_6, DL.atI_7, DL.atI_8, DL.atI_9, DL.atI_10, DL.atI_11,
    List.getElem?_cons_zero, List.getElem?_cons_succ, List.getElem?_nil, List.set_cons_zero, List.set_cons_succ, List.length_cons, List.length_nil, List.map_cons, List.map_nil, List.replicate, List.cons_append, List.nil_append, List.length, Nat.reduceSub, Nat.reduceAdd, Nat.reduceMul, Nat.reduceLeDiff, Bool.not_true, Bool.not_false, if_true, if_false, decide_true, decide_false, Int.cast_ofNat_Int, Int.reduceEq, Int.reduceNeg, Int.reduceSub, Int.reduceAdd, Int.reduceMul, reduceCtorEq, Bool.false_eq_true, ite_true, ite_false, ↓reduceIte, true_and, and_true, Bool.xor_false, Bool.xor_true, Bool.false_xor, Bool.true_xor]; try (first | rw [DL.br_dec] | rw [DL.br_any])))
local macro_rules | `(tactic| walk_at "bt") => `(tactic| with_reducible repeat' (first | assumption | exact DL.bt_lit (by decide) | apply DL.Bt.mul | apply DL.Bt.add | apply DL.Bt.sub | apply DL.Bt.div | apply DL.Bt.neg))
local macro_rules | `(tactic| walk_at "cm") => `(tactic| (apply DL.cmulx; (focus walk_at "bt"); (focus walk_at "bt"); decide))

set_option Elab.async false
set_option linter.all false
set_option maxRecDepth 100000
set_option maxHeartbeats 4000000
namespace LW
open PySem PySem.Spec PyProof.Rows L2 DL
/-! ### the defs that every law has: their readings, printed by gen.py -/
def T_is_number : ST := (sRet (tAnd' (t1 (fIsi .int) (tV 0)) (tAnd' (tNot' (t1 (fIsi .bool) (tV 0))) (tCh fLe fLe (tV 1) (tV 0) (tV 2)))))
def T__law_draws : ST := (sSeq (sSet 1 (tLst' aNil))
    (sSeq (sFor (iSeqD (tV 0)) (gVar 2) (sSeq (sSet 3 (tC' fAbs (aCons (tV 2) aNil)))
    (sSeq (sIf (tT (t2 (fLt) (tV 3) (t2 fPow (tK (.int 10)) (tK (.int 18))))) (sSeq (sSet 4 (t2 fMod (tC' fInt1 (aCons (t2 fAdd (t2 fMul (tV 3) (tK (.int 48271))) (tK (.int 11))) aNil)) (tK (.int 2147483647))))
    (sSeq (sExpr (tAppend (tV 1) (aCons (t2 fMod (tC' fInt1 (aCons (t2 fAdd (t2 fMul (tV 4) (tK (.int 69621))) (tV 3)) aNil)) (tK (.int 2147483629))) aNil)))
    (sSeq (sExpr (tAppend (tV 1) (aCons (t2 fMod (tC' fInt1 (aCons (t2 fAdd (tV 4) (t2 fDiv (tV 3) (tK (.int 7)))) aNil)) (tK (.int 1000003))) aNil)))
    (sSet 3 (tK (.int 0)))))) sNext)
    (sFor (iR1 (aCons (tK (.int 60)) aNil)) (gVar 5) (sIf (tT (t2 (fGt) (tV 3) (tK (.int 0)))) (sSeq (sExpr (tAppend (tV 1) (aCons (t2 fMod (tC' fInt1 (aCons (tV 3) aNil)) (tK (.int 997))) aNil)))
    (sSet 3 (t2 fDiv (tV 3) (tK (.int 997))))) sNext)))))
    (sSeq (sSet 6 (tK (.int 1)))
    (sSeq (sIf (tT (t2 (fGt) (tC' fLen (aCons (tV 0) aNil)) (tK (.int 0)))) (sSet 6 (t2 fAdd (tK (.int 1)) (tC' fAbs (aCons (t2 fIx (tV 0) (tK (.int 0))) aNil)))) sNext)
    (sSeq (sFor (iR1 (aCons (tK (.int 900)) aNil)) (gVar 5) (sSeq (sSet 6 (t2 fMod (tC' fInt1 (aCons (t2 fAdd (t2 fMul (tV 6) (tK (.int 48271))) (tK (.int 69621))) aNil)) (tK (.int 2147483647))))
    (sExpr (tAppend (tV 1) (aCons (t2 fDiv (tV 6) (tK (.int 5))) aNil)))))
    (sRet (t1 fLRev (tV 1))))))))
def T__law_take : ST := (sSeq (sIf (tT (t2 (fEq) (tC' fLen (aCons (tV 0) aNil)) (tK (.int 0)))) (sRet (tK (.int 0))) sNext)
    (sRet (t2 fMod (tC' fInt1 (aCons (tPop (tV 0)) aNil)) (tV 1))))
def T__law_alike (sp__law_alike : PSp) : ST := (sSeq (sIf (bOr (tTr (t1 (fIsi .list) (tV 1))) (tTr (t1 (fIsi .tuple) (tV 1)))) (sSeq (sIf (bOr (tT (t2 (fNe) (t1 (fIsi .list) (tV 0)) (t1 (fIsi .list) (tV 1)))) (tT (t2 (fNe) (t1 (fIsi .tuple) (tV 0)) (t1 (fIsi .tuple) (tV 1))))) (sRet (tK (.bl false))) sNext)
    (sRet (tAnd' (t2 (fEq) (tC' fLen (aCons (tV 0) aNil)) (tC' fLen (aCons (tV 1) aNil))) (t2 (fEq) (tLc' (iR1 (aCons (tC' fLen (aCons (tV 1) aNil)) aNil)) (gVar 2) (bNot (tTr (tCall' sp__law_alike (aCons (t2 fIx (tV 0) (tV 2)) (aCons (t2 fIx (tV 1) (tV 2)) aNil))))) (tV 2) [2]) (tLst' aNil))))) sNext)
    (sSeq (sIf (tT (t2 (fIs false) (tV 1) (tK .non))) (sRet (t2 (fIs false) (tV 0) (tK .non))) sNext)
    (sSeq (sIf (bOr (tTr (t1 (fIsi .bool) (tV 1))) (tTr (t1 (fIsi .bool) (tV 0)))) (sRet (tAnd' (t1 (fIsi .bool) (tV 0)) (tAnd' (t1 (fIsi .bool) (tV 1)) (t2 (fEq) (tV 0) (tV 1))))) sNext)
    (sSeq (sIf (tTr (t1 (fIsi .int) (tV 1))) (sRet (tAnd' (t1 (fIsi .int) (tV 0)) (t2 (fEq) (tV 0) (tV 1)))) sNext)
    (sRet (tAnd' (t1 (fIsi .str) (tV 0)) (t2 (fEq) (tV 0) (tV 1))))))))
def T__law_says : ST := (sRet (tAnd' (t1 (fIsi .bool) (tV 0)) (t2 (fEq) (tV 0) (tV 1))))

/-! ### what they promise -/
abbrev SEr (q : RV → Prop) (x : Addr → Prop) : SE := ⟨fun _ => q (.d .non), fun r _ => q r, fun _ => False, fun _ => False, fun c _ => x c⟩
def numB : D → Int → Int → Bool
  | .int i, a, b => decide (a ≤ i) && decide (i ≤ b)
  | _, _, _ => false
def sp_is_number : PSp := fun ds q _ => ∃ v a b, ds = [v, .int a, .int b] ∧ isOp v = false ∧ q (.d (.bl (numB v a b)))
theorem is_number_ok (ds q x) (h : sp_is_number ds q x) : T_is_number (SEr q x) (startE ["value", "least", "most"] ds) := by
  obtain ⟨v, a, b, rfl, ho, h⟩ := h
  unfold T_is_number
  cases v with
  | op v => cases ho
  | dit v => cases ho
  | int i =>
    walk_at "dl"
    have h : q (.d (.bl (decide (a ≤ i) && decide (i ≤ b)))) := h
    split
    · rename_i h1
      rw [decide_eq_true h1, Bool.true_and] at h
      exact h
    · rename_i h1
      rw [decide_eq_false h1, Bool.false_and] at h
      exact h
  | _ => walk_at "dl"; exact h
theorem numB_t {t a b : Int} (h : a ≤ t ∧ t ≤ b) : numB (.int t) a b = true := by
  show (decide _ && decide _) = true
  rw [decide_eq_true h.1, decide_eq_true h.2]
  rfl
theorem numB_f {t a b : Int} (h : ¬ (a ≤ t ∧ t ≤ b)) : numB (.int t) a b = false := by
  show (decide _ && decide _) = false
  rw [← Bool.decide_and]
  exact decide_eq_false h
/-! _law_says -/
def sp_says : PSp := fun ds q _ => ∃ b, ds = [.bl b, .bl b] ∧ q (.d (.bl true))
theorem says_ok (ds q x) (h : sp_says ds q x) : T__law_says (SEr q x) (startE ["told", "due"] ds) := by
  obtain ⟨b, rfl, h⟩ := h
  unfold T__law_says
  walk_at "dl"
  exact h
/-! _law_take -/
def sp_take : PSpIO := fun d ds q _ => ∃ (rs : List Int) (b : Int), d = .lst (rs.map .int) ∧ ds = [.int b] ∧ 0 < b ∧ ∀ (r : Int) (rs' : List Int), 0 ≤ r → r < b → q (.d (.int r)) (.lst (rs'.map .int))
theorem take_ok (d ds q x) (h : sp_take d ds q x) : T__law_take ⟨fun ρ => some! (ioS ρ[0]?) fun y => q (.d .non) y, fun r ρ => some! (ioS ρ[0]?) fun y => q r y, fun _ => False, fun _ => False, fun c ρ => some! (ioS ρ[0]?) fun y => x c y⟩ (startIO ["draws", "bound"] d ds) := by
  obtain ⟨rs, b, rfl, rfl, hb, h⟩ := h
  unfold T__law_take
  walk_at "dl"
  split
  · walk_at "dl"
    exact h 0 rs (by omega) hb
  · rename_i h0
    rw [List.length_map] at h0
    have hn : rs.length - 1 < rs.length := by omega
    (walk_at "dl"; repeat (simp only [List.length_map, List.getElem?_map, List.getElem?_eq_getElem hn, Option.map_some, ← List.map_dropLast]; walk_at "dl"))
    exact ⟨hb, h _ _ (Int.emod_nonneg _ (by omega)) (Int.emod_lt_of_pos _ hb)⟩
/-! _law_draws -/
def sp_draws : PSp := fun ds q _ => ∃ ns : List Int, ds = [.fz (ns.map .int)] ∧ ns.length ≤ 63 ∧ (∀ z ∈ ns, Bt 1048576 z) ∧ ∀ rs : List Int, q (.n (.lst (rs.map .int)))
abbrev dInner : ST := (sFor (iR1 (aCons (tK (D.int 60)) aNil)) (gVar 5)
          (sIf (tT (t2 fGt (tV 3) (tK (D.int 0))))
            (sSeq (sExpr (tAppend (tV 1) (aCons (t2 fMod (tC' fInt1 (aCons (tV 3) aNil)) (tK (D.int 997))) aNil)))
              (sSet 3 (t2 fDiv (tV 3) (tK (D.int 997)))))
            sNext))
theorem rng_get {lo : Int} {n i : Nat} {d : D} (h : (rngD lo n)[i]? = some d) : i < n ∧ d = .int (lo + (i : Int)) := by
  unfold rngD at h
  rw [List.getElem?_map] at h
  rcases Nat.lt_or_ge i n with g | g
  · rw [List.getElem?_range g] at h
    exact ⟨g, (Option.some.inj h).symm⟩
  · rw [List.getElem?_eq_none (by rw [List.length_range]; exact g)] at h
    cases h
theorem rng_len {lo : Int} {n : Nat} : (rngD lo n).length = n := by
  unfold rngD
  rw [List.length_map, List.length_range]
theorem ints_snoc (ds : List Int) (i : Int) : ds.map D.int ++ [.int i] = (ds ++ [i]).map D.int := by rw [List.map_append]; rfl
theorem inner_ok (e : SE) (s0 s2 s4 s5 s6 : Sl) (ds : List Int) (a : Int) (hz : ds.length ≤ 10000)
    (hq : ∀ (ds' : List Int) (a' : Int) (s5 : Sl), ds'.length ≤ ds.length + 60 → e.nx [s0, .ow (.lst (ds'.map .int)), s2, .va (.int a'), s4, s5, s6]) :
    dInner e [s0, .ow (.lst (ds.map .int)), s2, .va (.int a), s4, s5, s6] := by
  walk_at "dl"
  refine ⟨by decide, by decide, ?_⟩
  refine ⟨fun i ρ => ∃ (ds' : List Int) (a' : Int) (s5 : Sl), ρ = [s0, .ow (.lst (ds'.map .int)), s2, .va (.int a'), s4, s5, s6] ∧ ds'.length ≤ ds.length + i, ⟨ds, a, s5, rfl, Nat.le_refl _⟩, fun i d ρ hd hP => ?_, fun ρ hP => ?_⟩
  · obtain ⟨hi, rfl⟩ := rng_get hd
    obtain ⟨ds', a', s5, rfl, hl⟩ := hP
    have hi : i < 60 := hi
    walk_at "dl"
    split
    · walk_at "dl"
      refine ⟨by decide, ?_⟩
      rw [List.length_map, ints_snoc]
      refine ⟨Nat.lt_of_le_of_lt (show ds'.length ≤ 20000 by omega) (by decide), cdivw (by decide) (bt_lit (by decide)) (by decide), _, _, _, rfl, ?_⟩
      rw [List.length_append]
      show ds'.length + 1 ≤ _
      omega
    · walk_at "dl"
      exact ⟨ds', a', _, rfl, by omega⟩
  · obtain ⟨ds', a', s5, rfl, hl⟩ := hP
    rw [rng_len] at hl
    exact hq ds' a' s5 hl
theorem draws_ok (ds q x) (h : sp_draws ds q x) : T__law_draws (SEr q x) (startE ["script", "draws", "cell", "number", "first", "k", "seed"] ds) := by
  obtain ⟨ns, rfl, hl, hb, h⟩ := h
  unfold T__law_draws
  walk_at "dl"
  refine ⟨fun i ρ => ∃ (ds : List Int) (s2 s3 s4 s5 s6 : Sl), ρ = [.va (.fz (ns.map .int)), .ow (.lst (ds.map .int)), s2, s3, s4, s5, s6] ∧ ds.length ≤ 64 * i, ⟨[], _, _, _, _, _, rfl, Nat.le_refl _⟩, fun i d ρ hd hP => ?_, fun ρ hP => ?_⟩
  · obtain ⟨ds, s2, s3, s4, s5, s6, rfl, hz⟩ := hP
    rw [List.getElem?_map] at hd
    obtain ⟨c, hc, rfl⟩ := Option.map_eq_some_iff.mp hd
    have hi : i < ns.length := (List.getElem?_eq_some_iff.mp hc).1
    have bc : Bt 1048576 c := hb c (List.mem_of_getElem? hc)
    walk_at "dl"
    generalize ha : (if c < 0 then -c else c) = a
    have ba : Bt 1048576 a := by
      rw [← ha]
      split
      · exact bc.neg
      · exact bc
    refine ⟨⟨by decide, by decide, by decide⟩, ?_⟩
    split
    · walk_at "dl"
      refine ⟨by walk_at "cm", by decide, ?_⟩
      have bf : Bt 64 ((a * 48271 + 11) % 2147483647) := Bt.mod (by decide) (bt_lit (by decide))
      generalize (a * 48271 + 11) % 2147483647 = f at bf ⊢
      refine ⟨by walk_at "cm", by decide, ?_⟩
      rw [List.length_map, ints_snoc]
      refine ⟨Nat.lt_of_le_of_lt (show ds.length ≤ 20000 by omega) (by decide), cdivw (by decide) (bt_lit (by decide)) (by decide), by decide, ?_⟩
      rw [List.length_map, List.length_append, ints_snoc]
      refine ⟨Nat.lt_of_le_of_lt (show ds.length + 1 ≤ 20000 by omega) (by decide), ?_⟩
      refine inner_ok _ _ _ _ _ _ _ _ ?_ fun ds' a' s5 hl' => ⟨ds', _, _, _, _, _, rfl, ?_⟩
      · simp only [List.length_append, List.length_cons, List.length_nil]
        omega
      · simp only [List.length_append, List.length_cons, List.length_nil] at hl'
        omega
    · refine inner_ok _ _ _ _ _ _ _ _ ?_ fun ds' a' s5 hl' => ⟨ds', _, _, _, _, _, rfl, ?_⟩
      · omega
      · omega
  · obtain ⟨ds, s2, s3, s4, s5, s6, rfl, hz⟩ := hP
    rw [List.length_map] at hz
    have fin : ∀ (s6 : Int), Bt 1048700 s6 → sSeq (sFor (iR1 (aCons (tK (D.int 900)) aNil)) (gVar 5)
                (sSeq
                  (sSet 6
                    (t2 fMod (tC' fInt1 (aCons (t2 fAdd (t2 fMul (tV 6) (tK (D.int 48271))) (tK (D.int 69621))) aNil))
                      (tK (D.int 2147483647))))
                  (sExpr (tAppend (tV 1) (aCons (t2 fDiv (tV 6) (tK (D.int 5))) aNil)))))
              (sRet (t1 fLRev (tV 1))) (SEr q x) [.va (.fz (ns.map .int)), .ow (.lst (ds.map .int)), s2, s3, s4, s5, .va (.int s6)] := fun s6 b6 => by
      walk_at "dl"
      refine ⟨by decide, by decide, ?_⟩
      refine ⟨fun i ρ => ∃ (ds' : List Int) (s5 : Sl) (s6 : Int), ρ = [.va (.fz (ns.map .int)), .ow (.lst (ds'.map .int)), s2, s3, s4, s5, .va (.int s6)] ∧ ds'.length ≤ ds.length + i ∧ Bt 1048700 s6, ⟨ds, s5, s6, rfl, Nat.le_refl _, b6⟩, fun i d ρ hd hP => ?_, fun ρ hP => ?_⟩
      · obtain ⟨hi, rfl⟩ := rng_get hd
        obtain ⟨ds', s5, s6, rfl, hl', b6⟩ := hP
        have hi : i < 900 := hi
        walk_at "dl"
        refine ⟨by walk_at "cm", by decide, cdivw (by decide) (bt_lit (by decide)) (by decide), ?_⟩
        rw [List.length_map, ints_snoc]
        refine ⟨Nat.lt_of_le_of_lt (show ds'.length ≤ 20000 by omega) (by decide), _, _, _, rfl, ?_, (Bt.mod (by decide) (bt_lit (by decide))).mono (by decide)⟩
        rw [List.length_append]
        show ds'.length + 1 ≤ _
        omega
      · obtain ⟨ds', s5, s6, rfl, hl', b6⟩ := hP
        (walk_at "dl"; repeat (simp only [← List.map_reverse]; walk_at "dl"))
        exact h _
    walk_at "dl"
    split
    · rename_i h0
      cases ns with
      | nil => exact absurd h0 (by decide)
      | cons n ns =>
        walk_at "dl"
        have bn : Bt 1048576 n := hb n List.mem_cons_self
        have := fin (1 + if n < 0 then -n else n) (by
          refine Bt.mono (a := 64 + 1048576 + 1) (Bt.add (bt_lit (by decide)) ?_) (by decide)
          split
          · exact bn.neg
          · exact bn)
        exact this
    · exact fin 1 ((bt_lit (by decide)).mono (by decide))
/-! _law_alike: what is the same -/
def scal : D → Bool
  | .non => true
  | .bl _ => true
  | .int _ => true
  | .str _ => true
  | _ => false
def sp_bot : PSp := fun _ _ _ => False
def sp_alike0 : PSp := fun ds q _ => ∃ v, ds = [v, v] ∧ scal v = true ∧ shD v ∧ q (.d (.bl true))
theorem eqv_self_str (x : Str) : eqD (.str x) (.str x) = true := by
  unfold eqD pyD
  simp [PyData.eqv]
theorem alike0_ok (sp ds q x) (h : sp_alike0 ds q x) : T__law_alike sp (SEr q x) (startE ["found", "due", "k"] ds) := by
  obtain ⟨v, rfl, hs, hsh, h⟩ := h
  unfold T__law_alike
  cases v with
  | non => walk_at "dl"; exact h
  | bl b => walk_at "dl"; exact h
  | int i => walk_at "dl"; exact h
  | str z =>
    walk_at "dl"
    refine ⟨hsh, hsh, ?_⟩
    rw [eqv_self_str]
    exact h
  | _ => cases hs
def sp_alike1 : PSp := fun ds q x => sp_alike0 ds q x ∨ ∃ vs, ds = [.lst vs, .lst vs] ∧ vs.length ≤ 1000 ∧ (∀ v ∈ vs, scal v = true ∧ shD v) ∧ q (.d (.bl true))
theorem sh_nil : shD (.lst []) := rfl
theorem alike1_ok (ds q x) (h : sp_alike1 ds q x) : T__law_alike sp_alike0 (SEr q x) (startE ["found", "due", "k"] ds) := by
  rcases h with h | ⟨vs, rfl, hl, hv, h⟩
  · exact alike0_ok _ ds q x h
  unfold T__law_alike
  walk_at "dl"
  have e2 : (2 : Int) ^ 62 = 4611686018427387904 := by decide
  refine ⟨by omega, by omega, ?_⟩
  refine ⟨rfl, fun i acc ρ => acc = [] ∧ ρ = [.va (.lst vs), .va (.lst vs), .no], ⟨rfl, rfl⟩, fun i d acc ρ hd hP => ?_, fun acc ρ hP => ?_⟩
  · obtain ⟨rfl, rfl⟩ := hP
    obtain ⟨hi, rfl⟩ := rng_get hd
    have hi : i < vs.length := by omega
    have g := List.getElem?_eq_getElem hi
    rw [show (0 : Int) + (i : Int) = (i : Int) by omega]
    (walk_at "dl"; repeat (simp only [atI_at (n := i) rfl g]; walk_at "dl"))
    have := hv _ (List.getElem_mem hi)
    refine ⟨_, rfl, this.1, this.2, ?_⟩
    walk_at "dl"
    rfl
  · obtain ⟨rfl, rfl⟩ := hP
    walk_at "dl"
    refine ⟨sh_nil, sh_nil, ?_⟩
    rw [show eqD (.lst []) (.lst []) = true by unfold eqD pyD pyDs; simp [PyData.eqv, PyData.eqvAll]]
    exact h
end LW

set_option Elab.async false
set_option linter.all false
set_option maxRecDepth 100000
set_option maxHeartbeats 4000000
namespace DL
open PySem PySem.Spec PyProof.Rows L2
/-! ### below the hand layer: is_number of an item, called from a generator expression -/
/-- what a value's type needs of the heap, and that the heap has it -/
def TyAt (K : PySem.W.Frag) (u t : Value) (h : Heap) : Prop := ∃ Z : Heap → Prop, PySem.W.KitX K u t Z ∧ Z h ∧ u ≠ .builtin "__main__.__loader__#opaque" ∧ ∀ h' : Heap, (∀ b o, h.get? b = some o → h'.get? b = some o) → Z h'
section
variable {P : Program} {w : World} {K : PySem.W.Frag} {M : Addr → Prop} {H : Hp} {v : V} {d : D} {u : Value} {s1 s2 : Heap}
theorem tyAt_of (kin : K.In s2) (hok : HOk P w H s1) (kp : ∀ b o, s1.get? b = some o → (∀ vs, o.data ≠ .fields vs) → s2.get? b = some o) (r : Rep K M H v d) (nop : isOp d = false) (rv : RelV v u) : TyAt K u (.type (kindN d)) s2 := by
  have mono : ∀ {a : Addr} {T : String} {o : Obj}, s2.get? a = some o → o.cls = .type T → ∀ h' : Heap, (∀ b o, s2.get? b = some o → h'.get? b = some o) → ∃ o, h'.get? a = some o ∧ o.cls = .type T := fun e c h' k => ⟨_, k _ _ e, c⟩
  cases d with
  | op v => cases nop
  | non => cases r; cases (show u = Value.none from rv); exact ⟨_, PySem.W.kitx_none, True.intro, (fun z => nomatch z), fun _ _ => True.intro⟩
  | bl y => cases r; cases (show u = Value.bool y from rv); exact ⟨_, PySem.W.kitx_bool, True.intro, (fun z => nomatch z), fun _ _ => True.intro⟩
  | int i => cases r; obtain ⟨t, q⟩ := (show ∃ t, u = Value.int i t from rv); cases q; exact ⟨_, PySem.W.kitx_int, True.intro, (fun z => nomatch z), fun _ _ => True.intro⟩
  | str y => cases r; obtain ⟨t, q⟩ := (show ∃ t, u = Value.str y t from rv); cases q; exact ⟨_, PySem.W.kitx_str, True.intro, (fun z => nomatch z), fun _ _ => True.intro⟩
  | tup ds =>
    cases r with
    | @tup a xs _ s _ =>
      cases (show u = Value.ref a from rv)
      obtain ⟨_, its, _, o, e1, e2, n, e3⟩ := (show ObjOk P w H s1 a (.tup xs) from hok a _ s)
      have e4 := kp a o e1 (fun vs z => by rw [e3] at z; cases z)
      exact ⟨_, PySem.W.kitx_tuple, ⟨o, e4, e2⟩, (fun z => nomatch z), fun h' k => ⟨_, k _ _ e4, e2⟩⟩
  | st ds =>
    cases r with
    | @st a xs _ s _ =>
      cases (show u = Value.ref a from rv)
      obtain ⟨o, its, n, h1, h2, _⟩ := s
      exact ⟨_, PySem.W.kitx_tuple, ⟨o, kin a o h1, h2⟩, (fun z => nomatch z), fun h' k => ⟨_, k _ _ (kin a o h1), h2⟩⟩
  | lst ds =>
    cases r with
    | @lst a xs _ h1 _ _ =>
      cases (show u = Value.ref a from rv)
      obtain ⟨_, its, n, _, e1⟩ := (show ObjOk P w H s1 a (.lst xs) from hok a _ h1)
      have e2 := kp a _ e1 (fun vs z => nomatch z)
      exact ⟨_, PySem.W.kitx_list, ⟨_, e2, rfl⟩, (fun z => nomatch z), fun h' k => ⟨_, k _ _ e2, rfl⟩⟩
  | fz ds =>
    cases r with
    | @fz a xs _ s _ =>
      cases (show u = Value.ref a from rv)
      have key : ∃ o, s2.get? a = some o ∧ o.cls = .type "list" := by
        rcases s with ⟨h1 | ⟨ob, h1⟩, _⟩ | ⟨o, its, n, h1, h2, _⟩
        · obtain ⟨_, its, n, _, e1⟩ := (show ObjOk P w H s1 a (.lst xs) from hok a _ h1)
          exact ⟨_, kp a _ e1 (fun vs z => nomatch z), rfl⟩
        · obtain ⟨_, _, its, n, _, e1⟩ := (show ObjOk P w H s1 a (.frz ob (.lst xs)) from hok a _ h1)
          exact ⟨_, kp a _ e1 (fun vs z => nomatch z), rfl⟩
        · exact ⟨o, kin a o h1, h2⟩
      obtain ⟨o, e1, e2⟩ := key
      exact ⟨_, PySem.W.kitx_list, ⟨o, e1, e2⟩, (fun z => nomatch z), fun h' k => ⟨_, k _ _ e1, e2⟩⟩
  | dic ds =>
    cases r with
    | @dic a xs _ h1 _ _ =>
      cases (show u = Value.ref a from rv)
      obtain ⟨_, _, vs, _, o, es, ep, e1, e2, e3, _⟩ := (show ObjOk P w H s1 a (.dK xs) from h1.ok hok)
      have e4 := kp a _ e1 (fun vs z => by rw [e3] at z; cases z)
      exact ⟨_, PySem.W.kitx_dict, ⟨_, e4, e2.1⟩, (fun z => nomatch z), fun h' k => ⟨_, k _ _ e4, e2.1⟩⟩
  | dit ds => cases nop
theorem TyAt.more {t : Value} {h h' : Heap} (z : TyAt K u t h) (k : ∀ b o, h.get? b = some o → h'.get? b = some o) : TyAt K u t h' := by
  obtain ⟨Z, a, b, c, m⟩ := z
  exact ⟨Z, a, m h' k, c, fun h2 k2 => m h2 fun b o e => k2 b o (k b o e)⟩
end
/-- an environment in which a def's names are seen -/
structure LEnv (K : PySem.W.Frag) (mg : Str → Option Value) (base : Heap) (env : Env) (m : Str → Option Value) (s : Shared) : Prop where
  mod : L2.Mod K mg base
  kind : env.scope.kind = .function
  glob : env.globals = mainGlobals
  blt : env.builtins = builtinsNs
  bk : ∀ b o, base.get? b = some o → s.heap.get? b = some o
  ns : s.heap.Ns env.locals m
section
variable {P : Program} {w : World} {K : PySem.W.Frag} {mg : Str → Option Value} {base : Heap} {env : Env} {m : Str → Option Value} {s s' : Shared} {A : Around} {E : Value → Shared → Prop} {Q : Value → Shared → Prop} {x : Str} {u : Value} {pos : Pos}
theorem LEnv.tok (L : LEnv K mg base env m s) (t : Nat) : LEnv K mg base env m { s with toks := t } := ⟨L.mod, L.kind, L.glob, L.blt, L.bk, L.ns⟩
theorem LEnv.kin (L : LEnv K mg base env m s) : K.In s.heap := L.mod.kin.keeps L.bk
theorem low_glob (L : LEnv K mg base env m s) (hg : env.kindOf x = some .globalImplicit) (hm : mg x = some u) (h : Q u s) (hd : (x == ("__debug__" : Str)) = false := by decide) : wpAny (model P w) A (eval (.Name x pos) env) Q E s :=
  Calls.Name_function_global L.kind hg (Calls.loadGlobal_global (by rw [L.glob]; exact L.mod.glob.keeps L.bk) hm h) hd
theorem low_blt (L : LEnv K mg base env m s) (hg : env.kindOf x = some .globalImplicit) (hm : mg x = none) (hv : bootBuiltins x = some u) (h : Q u s) (hn : x ≠ "__name__" := by decide) (hd : (x == ("__debug__" : Str)) = false := by decide) : wpAny (model P w) A (eval (.Name x pos) env) Q E s := by
  obtain ⟨mb, h1, h2⟩ := L.mod.blt
  exact Calls.Name_function_global L.kind hg (Calls.loadGlobal_builtin (by rw [L.glob]; exact L.mod.glob.keeps L.bk) hm (by rw [L.blt]; exact h1.keeps L.bk) ((h2 x hn).trans hv) h) hd
theorem low_loc (L : LEnv K mg base env m s) (hl : env.kindOf x = some .local) (hm : m x = some u) (h : Q u s) (hd : (x == ("__debug__" : Str)) = false := by decide) : wpAny (model P w) A (eval (.Name x pos) env) Q E s :=
  wpAny_Name (wpAny_loadName_local L.kind hl L.ns hm h) hd
/-- isinstance(x, T) -/
theorem low_isi {T : TyN} {d : D} {b : Bool} {tn : Str} {p1 p2 p3 p4 : Pos} (L : LEnv K mg base env m s) (gi : env.kindOf "isinstance" = some .globalImplicit) (gT : env.kindOf tn = some .globalImplicit) (hi : mg "isinstance" = none) (hT : mg tn = none)
    (hbT : bootBuiltins tn = some (.type T.name)) (hl : env.kindOf x = some .local) (hm : m x = some u) (ty : TyAt K u (.type (kindN d)) s.heap) (e : isD T d = some b) (h : ∀ tk, Q (.bool b) { s with toks := tk }) (hn : tn ≠ "__name__" := by decide) (hd2 : (tn == ("__debug__" : Str)) = false := by decide) (hd : (x == ("__debug__" : Str)) = false := by decide) :
    wpAny (model P w) A (eval (.Call (.Name "isinstance" p1) [.Name x p2, .Name tn p3] [] p4) env) Q E s := by
  refine wpAny_Call_Name_kw (low_blt L gi hi (by decide +kernel : bootBuiltins "isinstance" = some (.builtin "isinstance")) ?_)
  refine PyProof.Rows.callWith_builtin1 ?_ rfl rfl
  show wpAny _ _ (spliced [(false, eval (.Name x p2) env), (false, eval (.Name tn p3) env)]) _ _ s
  refine Calls.spliced_cons (low_loc L hl hm ?_ hd)
  refine Calls.spliced_cons (low_blt L gT hT hbT ?_ hn hd2)
  refine Calls.spliced_nil ?_
  obtain ⟨Z, kx, z, ne, _⟩ := ty
  exact PySem.W.kia_one kx L.kin z (kit_ty (isD_kit T d b e)) ne h
end
/-- the body of is_number, whatever its places -/
def NumBody (st : Stmt) : Prop := ∃ p1 p2 p3 p4 p5 p6 p7 p8 p9 p10 p11 p12 p13 p14 p15 : Pos, defBody st = [.Return (some (.BoolOp .And [.Call (.Name "isinstance" p1) [.Name "value" p2, .Name "int" p3] [] p4,
  .UnaryOp .Not (.Call (.Name "isinstance" p5) [.Name "value" p6, .Name "bool" p7] [] p8) p9, .Compare (.Name "least" p10) [.LtE, .LtE] [.Name "value" p11, .Name "most" p12] p13] p14)) p15]
structure NumDef (K : PySem.W.Frag) (mg : Str → Option Value) (f : Addr) : Prop where
  ex : ∃ (st : Stmt) (fd : FuncData), Fun K "is_number" "is_number" st f fd ∧ NumBody st ∧ FnScope ["value", "least", "most"] ["value", "least", "most"] (defScope st) ∧ (∀ y ∈ (defScope st).names, y.2 ≠ .cell) ∧
    ((defScope st).names.lookup ("value" : Str) = some NameKind.local ∧ (defScope st).names.lookup ("least" : Str) = some NameKind.local ∧ (defScope st).names.lookup ("most" : Str) = some NameKind.local) ∧
    ((defScope st).names.lookup ("isinstance" : Str) = some NameKind.globalImplicit ∧ (defScope st).names.lookup ("int" : Str) = some NameKind.globalImplicit ∧ (defScope st).names.lookup ("bool" : Str) = some NameKind.globalImplicit) ∧ Binds K fd ["value", "least", "most"] []
  hm : mg "is_number" = some (.ref f)
  kp : PySem.W.keepIn K (.ref f) = true
  b1 : mg "isinstance" = none
  b2 : mg "int" = none
  b3 : mg "bool" = none
section
variable {P : Program} {w : World} {K : PySem.W.Frag} {mg : Str → Option Value} {base : Heap} {A : Around} {E : Value → Shared → Prop} {s : Shared} {f : Addr} {d : D} {u : Value} {i j : Int} {ti tj : Tok}
theorem low_num (N : NumDef K mg f) (hmod : L2.Mod K mg base) (bk : ∀ b o, base.get? b = some o → s.heap.get? b = some o) (hroom : A.depth < recursionLimit) (ty : TyAt K u (.type (kindN d)) s.heap) (nop : isOp d = false)
    (hint : ∀ n, d = .int n → ∃ t, u = .int n t) {Q : Value → Shared → Prop} (hQ : ∀ s', Keeps s s' → Q (.bool (LW.numB d i j)) s') :
    wpAny (model P w) A (call (.ref f) [u, .int i ti, .int j tj]) Q E s := by
  obtain ⟨st, fd, F, ⟨p1, p2, p3, p4, p5, p6, p7, p8, p9, p10, p11, p12, p13, p14, p15, hbody⟩, S, ncell, ⟨lv, ll, lm⟩, ⟨gi, gn, gb⟩, hb⟩ := N.ex
  have kin : K.In s.heap := hmod.kin.keeps bk
  have bnd := hb s [u, .int i ti, .int j tj] kin rfl
  obtain ⟨oc, od, kV, doc, pm, an, cdv, ct, osl, rfl, lk, hcd⟩ := F.ex
  refine wpAny_call (codeAny_call_def hroom (kin _ _ lk) rfl (hmod.nolimit.keeps bk) (PySem.W.codeRec_of kin hcd) rfl bnd ncell (fun y hy => ?_) (fun h₀ hn hk => ?_) S.co S.gen S.kind)
  · have hy : y ∈ [(("value" : Str), u), (("least" : Str), Value.int i ti), (("most" : Str), Value.int j tj)] := hy
    simp only [List.mem_cons, List.not_mem_nil, or_false] at hy
    rcases hy with rfl | rfl | rfl
    · exact lv
    · exact ll
    · exact lm
  · obtain ⟨env, he⟩ : ∃ env, env = callEnv (PySem.W.fnOf "is_number" "is_number" (defArgs st) (defBody st) (defScope st) .none kV doc pm an cdv ct) s.heap.objs.size f := ⟨_, rfl⟩
    have hsc : env.scope = defScope st := by rw [he]; rfl
    have L : LEnv K mg base env (fun x => (List.zip [("value" : Str), "least", "most"] ([u, .int i ti, .int j tj] ++ [])).reverse.lookup x) { s with heap := h₀, toks := s.toks + 3 } :=
      ⟨hmod, by rw [hsc]; exact S.kind, by rw [he]; rfl, by rw [he]; rfl, fun b o e => hk b o (bk b o e), by rw [he]; exact hn⟩
    have fin : ∀ (y : Bool) (t : Nat), y = LW.numB d i j → Q (.bool y) { s with heap := h₀, toks := t } := fun y t e => by
      rw [e]
      exact hQ _ ⟨h₀, t, rfl, hk⟩
    have ty2 : TyAt K u (.type (kindN d)) h₀ := ty.more hk
    have kv : env.kindOf "value" = some .local := by show env.scope.names.lookup _ = _; rw [hsc]; exact lv
    have kl : env.kindOf "least" = some .local := by show env.scope.names.lookup _ = _; rw [hsc]; exact ll
    have km : env.kindOf "most" = some .local := by show env.scope.names.lookup _ = _; rw [hsc]; exact lm
    have ki : env.kindOf "isinstance" = some .globalImplicit := by show env.scope.names.lookup _ = _; rw [hsc]; exact gi
    have kn : env.kindOf "int" = some .globalImplicit := by show env.scope.names.lookup _ = _; rw [hsc]; exact gn
    have kb : env.kindOf "bool" = some .globalImplicit := by show env.scope.names.lookup _ = _; rw [hsc]; exact gb
    rw [← he]
    show wpAny _ _ (execs (defBody st) env) _ _ _
    rw [hbody]
    refine wpAny_execs_cons (wpAny_Return_some ?_)
    show wpAny _ _ _ (fun v s' => Q v s') _ _
    have LT : ∀ tk, LEnv K mg base env (fun x => (List.zip [("value" : Str), "least", "most"] ([u, .int i ti, .int j tj] ++ [])).reverse.lookup x) { s with heap := h₀, toks := tk } := fun tk => L.tok tk
    refine BoolOp_and (low_isi (T := .int) (d := d) (b := (isD .int d).getD false) L ki kn N.b1 N.b2 (by decide +kernel) kv rfl ty2 (by cases d <;> first | rfl | cases nop) fun tk => ?_)
    refine wpAny_truthy_bool ?_
    cases hi : (isD .int d).getD false with
    | false =>
      refine ite_ff (fin false tk ?_)
      cases d <;> first | rfl | cases hi
    | true =>
      refine ite_tt ?_
      refine BoolOp_and (UnaryOp_ (low_isi (T := .bool) (d := d) (b := (isD .bool d).getD false) (LT tk) ki kb N.b1 N.b3 (by decide +kernel) kv rfl ty2 (by cases d <;> first | rfl | cases nop) fun tk => ?_))
      refine not_of (wpAny_truthy_bool (wpAny_truthy_bool ?_))
      cases hb : (isD .bool d).getD false with
      | true =>
        refine ite_ff (fin false tk ?_)
        cases d <;> first | rfl | cases hb
      | false =>
        refine ite_tt (BoolOp_one ?_)
        obtain ⟨n, rfl⟩ : ∃ n, d = .int n := by
          cases d with
          | int n => exact ⟨n, rfl⟩
          | bl _ => cases hb
          | _ => cases hi
        obtain ⟨t, rfl⟩ := hint n rfl
        refine Compare_chain (low_loc (LT tk) kl rfl ?_) (by with_unfolding_all rfl)
        refine chain_link (low_loc (LT tk) kv rfl (le_int (wpAny_truthy_bool ?_)))
        by_cases h1 : i ≤ n
        · rw [decide_eq_true h1]
          refine ite_tt (chain_last (low_loc (LT tk) km rfl (le_int ?_)))
          refine fin _ tk ?_
          show _ = (decide (i ≤ n) && decide (n ≤ j))
          rw [decide_eq_true h1, Bool.true_and]
        · rw [decide_eq_false h1]
          refine ite_ff (fin false tk ?_)
          show _ = (decide (i ≤ n) && decide (n ≤ j))
          rw [decide_eq_false h1, Bool.false_and]
end
/-- an int that needs nothing of the state -/
def ArgI (P : Program) (w : World) (K : PySem.W.Frag) (mg : Str → Option Value) (base : Heap) (scope : Scope) (e : Expr) (i : Int) : Prop :=
  ∀ (env : Env) (m : Str → Option Value) (s : Shared) (A : Around) (E Q : Value → Shared → Prop), env.scope = scope → LEnv K mg base env m s → (∀ t tk, Q (.int i t) { s with toks := tk }) → wpAny (model P w) A (eval e env) Q E s
theorem argI_int {P : Program} {w : World} {K : PySem.W.Frag} {mg : Str → Option Value} {base : Heap} {scope : Scope} {i : Int} {j : Nat} {pos : Pos} : ArgI P w K mg base scope (.Constant (.int i) j pos) i :=
  fun env m s A E Q _ _ h => wpAny_Constant_int (h _ _)
theorem argI_glob {P : Program} {w : World} {K : PySem.W.Frag} {mg : Str → Option Value} {base : Heap} {scope : Scope} {i : Int} {x : Str} {pos : Pos} (hm : ∃ t, mg x = some (.int i t)) (hl : scope.names.lookup x = some .globalImplicit) (hd : (x == ("__debug__" : Str)) = false := by decide) : ArgI P w K mg base scope (.Name x pos) i :=
  fun env m s A E Q e L h => by
    obtain ⟨t, hm⟩ := hm
    exact low_glob L (by show env.scope.names.lookup x = _; rw [e]; exact hl) hm (h t s.toks) hd
/-- the test at place k -/
def trN (ds : List D) (i j : Int) (k : Nat) : Bool := match ds[k]? with
  | some d => LW.numB d i j
  | none => false
theorem all_trN (ds : List D) (i j : Int) : (List.range ds.length).all (trN ds i j) = ds.all fun d => LW.numB d i j := by
  rw [Bool.eq_iff_iff, List.all_eq_true, List.all_eq_true]
  constructor
  · intro h d hd
    obtain ⟨k, hk, e⟩ := List.getElem_of_mem hd
    have q := h k (List.mem_range.mpr hk)
    unfold trN at q
    rw [List.getElem?_eq_getElem hk, e] at q
    exact q
  · intro h k hk
    have hk := List.mem_range.mp hk
    unfold trN
    rw [List.getElem?_eq_getElem hk]
    exact h _ (List.getElem_mem hk)
end DL

set_option Elab.async false
set_option linter.all false
set_option maxRecDepth 100000
set_option maxHeartbeats 4000000
namespace DL
open PySem PySem.Spec PyProof.Rows L2 GxR
/-! ### all(is_number(x, a, b) for x in e), e a tuple -/
def tAllNV (K : PySem.W.Frag) (Pt : Addr) (i j : Int) (te : TE) : TE := fun σ H Q => te σ H fun v H1 => ∃ (ad : Addr) (xs : List V) (M : Addr → Prop) (ds : List D), v = .ref ad ∧ SqT K H1 ad xs ∧ RepL K M H1 xs ds ∧ (∀ d ∈ ds, isOp d = false) ∧ TabG H1 Pt ∧
  ∀ H2, Tabbed Pt H1 H2 → Q (.bl (ds.all fun d => LW.numB d i j)) H2
section
variable {X : Cx}
theorem pe_allN {c Pt fN : Addr} {ea eb iter : Expr} {x : Str} {i j : Int} {px p q1 q2 q3 pos gpos : Pos} {scope : Scope} {te : TE} {k : Nat}
    (hr : Room k X.A) (hg : Gl X "all") (hm : X.mg "all" = none) (TB : TabB X.base X.mg c Pt) (hcode : X.env.code = .ref c) (S : GenS X.env scope x) (hN : NumDef X.K X.mg fN)
    (hgn : scope.names.lookup ("is_number" : Str) = some .globalImplicit) (hEa : ArgI X.prog X.w X.K X.mg X.base scope ea i) (hEb : ArgI X.prog X.w X.K X.mg X.base scope eb j) (hi : PE X iter te) (hs : ∀ v, genFold iter X.env v = pure v)
    (hxd : (x == ("__debug__" : Str)) = false) (ht3 : ∀ env, backTo q3 (starEach [ea, eb] env) = [(false, eval ea env), (false, eval eb env)])
    (he : starEach [.GeneratorExp (.Call (.Name "is_number" q1) [.Name x q2, ea, eb] [] q3) [⟨.Name x px, iter, [], 0⟩] scope gpos] X.env = (false, eval (.GeneratorExp (.Call (.Name "is_number" q1) [.Name x q2, ea, eb] [] q3) [⟨.Name x px, iter, [], 0⟩] scope gpos) X.env) :: starEach [] X.env := by rfl) :
    PE X (.Call (.Name "all" p) [.GeneratorExp (.Call (.Name "is_number" q1) [.Name x q2, ea, eb] [] q3) [⟨.Name x px, iter, [], 0⟩] scope gpos] [] pos) (tAllNV X.K Pt i j te) := by
  refine ⟨fun pins s σ H Q I h => ?_⟩
  refine wpAny_Call_Name_kw (ld_blt I hg hm (by decide +kernel : bootBuiltins "all" = some (.builtin "all")) ?_)
  refine PyProof.Rows.callWith_builtin1 ?_ he (by rfl)
  rw [he]
  show wpAny _ _ (spliced ((false, eval (.GeneratorExp (.Call (.Name "is_number" q1) [.Name x q2, ea, eb] [] q3) [⟨.Name x px, iter, [], 0⟩] scope gpos) X.env) :: backTo pos (starEach [] X.env))) _ _ s
  refine Calls.spliced_cons ?_
  refine wpAny_GeneratorExp_walksQD hr.hd S.co (closure_ok S.free) S.cell S.dot S.loc S.kind (by have := hr.dp; omega) ?_ hs
  refine thn (hi.run pins s σ H _ I h) fun xv s1 ⟨v, H1, I1, r1, q1⟩ => ?_
  obtain ⟨ad, xs, M, ds, rfl, hx, rl, nop, ⟨ps, hP, htr⟩, fin⟩ := q1
  cases (show xv = Value.ref ad from r1)
  obtain ⟨us, vu, pl, _⟩ := I1.tuple hx
  have hlen : us.length = ds.length := by rw [← vu.length, rl.length]
  refine wpAny_pyIter_tuple (show s1.heap.IsTuple ad us.toArray from pl) ?_
  generalize ho : ({ cls := .type "tuple_iterator", data := .fields #[.ref ad, .int 0 0] } : Obj) = o
  have hPs : s1.heap.get? Pt = some { cls := .none, data := .fields ps } := I1.hok Pt _ hP
  have hPlt : Pt < s1.heap.objs.size := Heap.lt_size hPs
  have hadlt : ad < s1.heap.objs.size := let ⟨_, e, _⟩ := pl; Heap.lt_size e
  have hadP : ad ≠ Pt := fun e => by
    obtain ⟨o, e1, _, _, e2⟩ := pl
    rw [e, hPs] at e1
    cases e1
    cases e2
  have hP2 : (s1.heap.push o).get? Pt = some { cls := .none, data := .fields ps } := Heap.get?_push_of_some _ hPs
  have cd : PySem.W.CodeHd (s1.heap.push o) c Pt := TB.code.keeps fun b u e => Heap.get?_push_of_some _ (I1.bk b u e)
  have lim2 : (s1.heap.push o).NoLimit := I1.nolimit.push o
  have gc : wpAny (model X.prog X.w) X.A (genexprCode X.env gpos (X.env.qual ++ "<genexpr>") scope) (fun code s3 => ∃ (h3 : Heap) (tk : Nat) (ps' : Array Value), s3 = { s1 with heap := h3, toks := tk } ∧ Heap.ExtBut Pt (s1.heap.push o) h3 ∧ (s1.heap.push o).objs.size ≤ h3.objs.size ∧
      h3.get? Pt = some { cls := .none, data := .fields ps' } ∧ (∃ more, ps' = ps ++ more) ∧ TriplesOk ps'.toList) X.xe { s1 with heap := s1.heap.push o } := by
    cases hf : codeAmong gpos ps.toList with
    | none =>
      refine wpAny_genexprCodeX hcode (cd.code hP2 htr) (cd.tab hP2) hf fun c' h' tk hx hge hlt hco' _ htab' _ => ?_
      obtain ⟨o1, vs, f1, tf, fl, tg, inF, tx, tt, op, _, _, _, _, _, _, _, _, _, htr2, _⟩ := hco'
      exact ⟨h', tk, _, rfl, hx, Nat.le_trans hge (Nat.le_of_lt hlt), htab'.2, ⟨_, rfl⟩, htr2⟩
    | some cv =>
      exact wpAny_genexprCode_hit hcode (cd.code hP2 htr) hf ⟨s1.heap.push o, s1.toks, ps, rfl, Heap.ExtBut.refl _ _, Nat.le_refl _, hP2, ⟨#[], by simp⟩, htr⟩
  refine ⟨lim2, wpAny_mono gc (fun code s3 h3 => ?_) fun _ _ e => e⟩
  obtain ⟨h3, tk, ps', rfl, hx3, hsz, hP3, ⟨more, em⟩, ht3'⟩ := h3
  obtain ⟨bm, ob, e1, e2, e3, e4, e5, e6, e7, e8⟩ := TB.bm
  have hcP : cStatics ≠ Pt := fun e => by
    obtain ⟨_, hns, _⟩ := I1.nolimit
    obtain ⟨o', es, ep, ho, hd, _⟩ := hns
    rw [e, hPs] at ho
    cases ho
    cases hd
  have hcl : cStatics < s1.heap.objs.size := let ⟨_, hns, _⟩ := I1.nolimit; hns.lt
  have sz2 : (s1.heap.push o).objs.size = s1.heap.objs.size + 1 := Heap.size_push ..
  have keep3 : ∀ b u, b ≠ Pt → s1.heap.get? b = some u → h3.get? b = some u := fun b u hb e => hx3 b u hb (Heap.get?_push_of_some _ e)
  have hbase : ∀ b u, X.base.get? b = some u → s1.heap.get? b = some u ∧ b ≠ Pt := fun b u e => ⟨I1.bk b u e, fun z => by
    have := (I1.bs b u e).2
    rw [z, hP] at this
    cases this⟩
  refine wpAny_builtinsFor (m := X.mg) (by rw [I1.ok.glob]; exact ((I1.mod.glob.keeps I1.bk).push o).extBut hx3 TB.gP) e1 e2 (keep3 _ _ e4 (I1.bk _ _ e5)) e6 e7 e8 ?_
  have hI : h3.get? s1.heap.objs.size = some o := hx3 _ _ (fun z => Nat.lt_irrefl _ (z ▸ hPlt)) (Heap.get?_push_size _ (by rw [← ho]; rfl))
  refine ⟨s1.heap.objs.size, [s1.heap.objs.size, ad], [s1.heap.objs.size], us.toArray.size, _, _, (fun _ => true), (fun k y => y = .bool (trN ds i j k)), rfl, (fun A' hA => Walks.tuple hA s1.heap.objs.size ad (Nat.ne_of_lt hadlt) us.toArray), ?_, ?_, lim2.extBut hx3 hcP, ?_, ?_, ?_⟩
  · refine ⟨⟨o, hI, by rw [← ho], by rw [← ho]; rfl⟩, ?_⟩
    obtain ⟨o', g1, g2⟩ := pl
    exact ⟨o', keep3 _ _ hadP g1, g2⟩
  · intro b hb
    rcases List.mem_cons.mp hb with z | z
    · rw [z]
      show s1.heap.objs.size < h3.objs.size
      omega
    · rcases List.mem_cons.mp z with z | z
      · rw [z]
        exact Nat.lt_trans hadlt (by show s1.heap.objs.size < h3.objs.size; omega)
      · cases z
  · intro z
    rcases List.mem_cons.mp z with z | z
    · exact Nat.ne_of_lt hcl z
    · cases z
  · intro href hhref
    refine ⟨fun A' E' n v s₂ m₂ hA _ _ hPv hn hm hk => ?_, fun A' E' n v s₂ m₂ hA hD hU hPv hp hn hm hk => ?_⟩
    · simp only [List.forIn_nil]
      exact wpAny_pure ⟨rfl, keeps_refl _⟩
    · obtain ⟨cenv, hce⟩ : ∃ cenv, cenv = genEnv scope (cloFrom X.env.cells scope.names []) h3.objs.size code builtinsNs X.env := ⟨_, rfl⟩
      have hkk : ∀ b u, b ≠ Pt → s1.heap.get? b = some u → s₂.heap.get? b = some u := fun b u hb e => by
        have hl := Heap.lt_size e
        refine hk b (List.mem_range.mpr (Nat.lt_of_lt_of_le hl (by show _ ≤ h3.objs.size; omega))) (fun z => ?_) u (hhref b u (keep3 b u hb e))
        rcases List.mem_cons.mp z with z | z
        · rw [z] at hl
          exact Nat.lt_irrefl _ hl
        · cases z
      have L : LEnv X.K X.mg X.base cenv m₂ s₂ := ⟨I1.ok.mod, by rw [hce]; exact S.kind, by rw [hce]; exact I1.ok.glob, by rw [hce]; rfl, fun b u e => hkk b u (hbase b u e).2 (hbase b u e).1, by rw [hce]; exact hn⟩
      have hsc : cenv.scope = scope := by rw [hce]; rfl
      have kx : cenv.kindOf x = some .local := by show cenv.scope.names.lookup x = _; rw [hsc]; exact S.loc
      have kn : cenv.kindOf "is_number" = some .globalImplicit := by show cenv.scope.names.lookup _ = _; rw [hsc]; exact hgn
      have hPv : us[n]? = some v := by simpa using hPv
      have hnl : n < us.length := (List.getElem?_eq_some_iff.mp hPv).1
      obtain ⟨d, hd⟩ : ∃ d, ds[n]? = some d := ⟨_, List.getElem?_eq_getElem (by omega)⟩
      obtain ⟨xv, hxv, rep⟩ := rl.get hd
      obtain ⟨v', hv', rv⟩ := vu.get hxv
      rw [hPv] at hv'
      cases hv'
      have nopd := nop d (List.mem_of_getElem? hd)
      have etr : trN ds i j n = LW.numB d i j := by
        unfold trN
        rw [hd]
      have ty : TyAt X.K v (.type (kindN d)) s₂.heap := tyAt_of L.kin I1.hok (fun b u e nf => hkk b u (fun z => by rw [z, hPs] at e; cases e; exact nf _ rfl) e) rep nopd rv
      have hint : ∀ m, d = .int m → ∃ t, v = .int m t := fun m e => by
        subst e
        cases rep
        exact rv
      rw [← hce, etr]
      refine wpAny_Call_Name_kw (low_glob L kn hN.hm ?_)
      refine PySem.W.callWith_K (h₀ := X.base) I1.ok.mod.kin hN.kp ?_ rfl (by rw [ht3]; rfl)
      show wpAny _ _ (spliced ((false, eval (.Name x q2) cenv) :: backTo q3 (starEach [ea, eb] cenv))) _ _ _
      rw [ht3]
      refine Calls.spliced_cons (low_loc L kx hm ?_ hxd)
      refine Calls.spliced_cons (hEa cenv m₂ s₂ A' E' _ hsc L fun t tk1 => ?_)
      refine Calls.spliced_cons (hEb cenv m₂ _ A' E' _ hsc (L.tok tk1) fun t' tk2 => ?_)
      refine Calls.spliced_nil ⟨L.kin, ?_⟩
      show wpAny _ A' (call (.ref fN) [v, .int i t, .int j t']) _ _ _
      refine low_num (A := A') (s := { s₂ with toks := tk2 }) (i := i) (j := j) (d := d) (Q := fun y s₃ => (y = Value.bool (LW.numB d i j)) ∧ Keeps s₂ s₃) hN I1.ok.mod L.bk (by have := hr.dp; omega) ty nopd hint fun s' ks => ⟨rfl, ?_⟩
      obtain ⟨h', tk', rfl, hk'⟩ := ks
      exact ⟨h', tk', rfl, hk'⟩
  · intro g h5 tk5 gs hgb hag hsz5 hk5 W5 hat
    simp only [GxR.passing_true, List.length_range] at W5
    have W := W5.in4_1
    have nwr : ∀ b u, s1.heap.get? b = some u → b ∉ h3.objs.size :: [s1.heap.objs.size] := fun b u e hb => by
      have hl := Heap.lt_size e
      rcases List.mem_cons.mp hb with z | z
      · rw [z] at hl
        have h9 : (h3.objs.size : Nat) < s1.heap.objs.size := hl
        omega
      · rcases List.mem_cons.mp z with z | z
        · rw [z] at hl
          exact Nat.lt_irrefl _ hl
        · cases z
    refine Calls.spliced_nil ?_
    refine call_all_walkS (W.self 0 _ _ _ hat ⟨g, _, _, _, _, _, _, trN ds i j, rfl, W, hat, ?_, fun s' hmv => ?_⟩)
    · intro n y sj Qj Ej hy hQj
      obtain ⟨m, hm, rfl⟩ := hy
      obtain ⟨hj, ej⟩ := List.getElem?_eq_some_iff.mp hm
      rw [List.getElem_range] at ej
      subst ej
      exact wpAny_truthy_bool hQj
    · have J := inv_tab (more := more) (h' := s'.heap) (g' := s'.gens) (d' := s'.drawn) (t' := s'.toks) I1 hP (fun b u hb e => hmv.heap b u (nwr b u e) (hk5 b u (keep3 b u hb e)))
        (by rw [← em]; exact hmv.heap Pt _ (nwr Pt _ hPs) (hk5 Pt _ hP3)) (AllBare.movedS (I1.bare.push hgb) hmv)
      rw [sh_eta s1 s' hmv.os] at J
      refine ⟨.bl _, upd H1 Pt (.tbl (ps ++ more)), J, rfl, ?_⟩
      have e2 : us.toArray.size = ds.length := by simpa using hlen
      rw [e2, all_trN]
      exact fin _ ⟨⟨ps ++ more, upd_same, by rw [← em]; exact ht3'⟩, fun b hb => upd_ne hb⟩
end
end DL

set_option Elab.async false
set_option linter.all false
set_option maxRecDepth 100000
set_option maxHeartbeats 4000000
namespace DL
open PySem PySem.Spec PyProof.Rows L2
/-- all(is_number(x, a, b) for x in e) over data -/
def tAllN (i j : Int) (ti : ET) : ET := fun ρ q x => ti ρ (fun r ρ1 => some! (settle ρ1 r) fun z => match z.1 with
  | .tup ds => (ds.all fun d => !isOp d) = true ∧ q (.d (.bl (ds.all fun d => LW.numB d i j))) z.2
  | _ => False) x
theorem genS_of {env : Env} {scope : Scope} {x : Str} (k : scope.kind = .function) (co : scope.isCoroutine = false) (nc : ∀ y ∈ scope.names, y.2 ≠ .cell) (dot : scope.names.lookup (".0" : Str) = some NameKind.local) (loc : scope.names.lookup x = some .local) (nf : ∀ y ∈ scope.names, y.2 ≠ .free) : GxR.GenS env scope x :=
  ⟨k, co, nc, dot, loc, fun y hy e => absurd e (nf y hy)⟩
/-- the def's code object and its table -/
structure GTab (T : Addr → Prop) (base : Heap) (mg : Str → Option Value) (c Pt : Addr) : Prop where
  tab : GxR.TabB base mg c Pt
  mem : T Pt
section
variable {X : Cx} {p : Amb} {W : WX}
theorem de_allN {c Pt fN : Addr} {ea eb iter : Expr} {x : Str} {i j : Int} {px pp q1 q2 q3 pos gpos : Pos} {scope : Scope} {ti : ET} {k : Nat}
    (hr : Room k X.A) (hm : X.mg "all" = none) (TB : GTab p.tb X.base X.mg c Pt) (hN : NumDef X.K X.mg fN) (hi : DE X p W iter ti) (hEa : ArgI X.prog X.w X.K X.mg X.base scope ea i) (hEb : ArgI X.prog X.w X.K X.mg X.base scope eb j) (S : GxR.GenS X.env scope x)
    (hgn : scope.names.lookup ("is_number" : Str) = some .globalImplicit) (hcode : X.env.code = .ref c := by rfl) (hg : Gl X "all" := by rfl) (hs : ∀ v, genFold iter X.env v = pure v := by intro _; rfl)
    (hxd : (x == ("__debug__" : Str)) = false := by decide) (ht3 : ∀ env, backTo q3 (starEach [ea, eb] env) = [(false, eval ea env), (false, eval eb env)] := by intro _; rfl)
    (he : starEach [.GeneratorExp (.Call (.Name "is_number" q1) [.Name x q2, ea, eb] [] q3) [⟨.Name x px, iter, [], 0⟩] scope gpos] X.env = (false, eval (.GeneratorExp (.Call (.Name "is_number" q1) [.Name x q2, ea, eb] [] q3) [⟨.Name x px, iter, [], 0⟩] scope gpos) X.env) :: starEach [] X.env := by rfl) :
    DE X p W (.Call (.Name "all" pp) [.GeneratorExp (.Call (.Name "is_number" q1) [.Name x q2, ea, eb] [] q3) [⟨.Name x px, iter, [], 0⟩] scope gpos] [] pos) (tAllN i j ti) :=
  ⟨PE.imp (pe_allN hr hg hm TB.tab hcode S hN hgn hEa hEb hi.pe hs hxd ht3 he) fun σ H Q ⟨M, ρ, q, xq, S0, ht, hq, hx⟩ => by
    refine ⟨M, ρ, _, _, S0, ht, fun v M1 H1 ρ1 r P1 S1 R1 h1 => ?_, hx⟩
    obtain ⟨⟨d, ρ2⟩, e1, h2⟩ := some!_ok h1
    obtain ⟨M2, P2, S2, R2⟩ := settleN_ok S0 P1 R1 e1
    cases d with
    | tup ds =>
      obtain ⟨nop, h3⟩ := h2
      have R2 : Rep X.K M2 H1 v (.tup ds) := R2
      cases R2 with
      | @tup ad xs _ s rl =>
        refine ⟨ad, xs, M2, ds, rfl, s.sq, rl, fun d hd => by simpa using List.all_eq_true.mp nop d hd, P2.sim.tabs _ TB.mem, fun H2 ⟨tg, oth⟩ => ?_⟩
        obtain ⟨ps0, e0, t0⟩ := P2.sim.tabs _ TB.mem
        have st : Step M2 Nil H1 M2 H2 := ⟨fun a o e _ nt => by
            by_cases ha : a = Pt
            · rw [ha, e0] at e
              cases e
              exact absurd rfl (nt ps0)
            · exact ⟨.inl ((oth a ha).trans e), fun _ => (oth a ha).trans e⟩, fun a h => .inl h, fun a h _ => h, fun a h => by
            by_cases ha : a = Pt
            · obtain ⟨ps, e, _⟩ := tg
              rw [ha, e]
              exact fun z => nomatch z
            · rw [oth a ha]
              exact h, fun a xs e => (oth a (fun z => by rw [z, e0] at e; cases e)).trans e, fun a ⟨ps, e, t⟩ => by
            by_cases ha : a = Pt
            · rw [ha]
              exact tg
            · exact ⟨ps, by rw [oth a ha]; exact e, t⟩⟩
        have P3 := P2.sim.post st fun a h => st.dom a (P2.sim.mok a h)
        exact hq (.bl _) M2 H2 ρ2 _ (P2.trans S0 P3) trivial (RVok.dd (.bl _)) h3
    | _ => exact h2.elim⟩
end
theorem tAllN_ {i j : Int} {ti : ET} {ρ : Ev} {q : EK} {x : XQ} : tAllN i j ti ρ q x = ti ρ (fun r ρ1 => some! (settle ρ1 r) fun z => some! (match z.1 with | .tup ds => some ds | _ => none) fun ds => (ds.all fun d => !isOp d) = true ∧ q (.d (.bl (ds.all fun d => LW.numB d i j))) z.2) x := by
  unfold tAllN
  congr 1
  funext r ρ1
  congr 1
  funext z
  obtain ⟨z1, z2⟩ := z
  cases z1 <;> rfl
section
variable {P : Program} {w : World} {K : PySem.W.Frag} {mg : Str → Option Value} {base : Heap}
theorem fn_okG {T : Addr → Prop} {c : Addr} {x qual : Str} {st : Stmt} {f : Addr} {fd : FuncData} {N ps : List Str} {k : Nat} {sp : PSp} {t : ST} (F : Fun K x qual st f fd) (hc : fd.code = .ref c) (S : FnScope N ps (defScope st)) (len : ∀ ds q x, sp ds q x → ds.length = ps.length)
    (hbody : ∀ (cdv : Value) (A : Around) (outer : List Env) (s : Shared) (H : Hp) (E : XK), cdv = .ref c → Room k (A.deeper (envOfC qual (defScope st) s.heap.objs.size f cdv)) →
      DSs (cxOf (L2N.CX P w) P w K mg base N qual (defScope st) f cdv A outer s H E) ⟨none, T⟩ (fun c d _ H => E c d H) (defBody st) t)
    (hsp : ∀ ds q x, sp ds q x → t ⟨fun _ => q (.d .non), fun r _ => q r, fun _ => False, fun _ => False, fun c _ => x c⟩ (startE N ds)) : FnOk P w K mg base (L2N.CX P w) (k + 1) f fd ps (liftSp K T sp) := by
  obtain ⟨oc, od, kV, doc, pm, an, cdv, ct, osl, rfl, lk, hcd⟩ := F.ex
  have hc : cdv = .ref c := hc
  have F2 : Fun K x qual st f (PySem.W.fnOf x qual (defArgs st) (defBody st) (defScope st) .none kV doc pm an cdv ct) := F
  refine fn_of lk hcd S (fun vs H Q E ⟨_, M, ds, q, x, mok, r, h, _⟩ => r.length.trans (len ds q x h)) fun A outer s H vs Q E hr ⟨ht, M, ds, q, x, mok, r, h, k1, k2⟩ => ?_
  refine ⟨_, (hbody cdv A outer s H E hc hr).pss, ?_⟩
  obtain ⟨S0, nw⟩ := start_sim (N := N) ht mok r
  have st0 : ∀ {M' : Addr → Prop} {H' : Hp}, Step M (Wr (L2.start N vs) (startE N ds)) H M' H' → Step M Nil H M' H' := fun s => s.weak fun a z => nw a z
  refine ⟨M, startE N ds, _, S0, hsp ds q x h, ⟨fun M' σ' H' ρ' P' h' => k1 .non M' H' (.d .non) ⟨st0 P'.step, P'.sim.mok, Rep.non⟩ h', fun _ _ _ _ _ z => z.elim, fun _ _ _ _ _ z => z.elim, fun v M' σ' H' ρ' r' P' R' h' => k1 v M' H' r' ⟨st0 P'.step, P'.sim.mok, ?_⟩ h', fun c M' σ' H' ρ' P' h' => k2 c M' H' (st0 P'.step) P'.sim.mok h'⟩⟩
  cases r' with
  | d y => exact R'
  | n y =>
    obtain ⟨a, e, m, o, z, _⟩ := R'
    exact ⟨a, e, z.elim id fun z => (nw a z).elim, m, o⟩
  | o _ => exact R'
end
theorem tabIn_code {K : PySem.W.Frag} {x : Str} {f c Pt : Addr} {oc : Value} {od : Option Addr} {fd : FuncData} {sl : Array (Option Value)} (a : PySem.W.nsIn K mainGlobals x = some (some (.ref f))) (l : K.lookup f = some ⟨oc, od, .func fd, sl⟩) (t : PySem.W.tabIn K x = some (c, Pt)) : fd.code = .ref c := by
  unfold PySem.W.tabIn at t
  rw [a] at t
  simp only at t
  rw [l] at t
  simp only at t
  split at t
  · rename_i c' hc
    split at t
    · split at t
      · cases t
        exact hc
      · cases t
    · cases t
  · cases t
/-! ### the end -/
/-- the tables of the defs in the list, as the head leaves them -/
def HeadTabs (q : Program) (K : PySem.W.Frag) (h : Heap) : Prop := ∀ (x : Str) (c Pt : Addr), ((recsOf q).find? fun e => e.name == x).isSome = true → PySem.W.tabIn K x = some (c, Pt) → PySem.W.CodeHd h c Pt ∧ h.get? Pt = some { cls := .none, data := .fields #[] }
theorem walk_ofG {l : PySem.W.OpenLaw} {n k : Nat} {q : Program} {loose : List Str} {XP : (Str → Option Value) → Heap → Prop} {YP : World → Heap → Prop} {d : DefRec} {K : Params → PySem.W.Frag} {CX : World → CXT} {x : Str}
    (hn : l.most = some n) (hn2 : n ≤ sizeLine) (hdf : d.params.defaults = []) (hr : Room k callerA) (hY : ∀ (w : World) (h : Heap), YP w h → (K w.params).In h)
    (F : ∀ (w : World) (mg : Str → Option Value) (fa : Addr) (h : Heap), (K w.params).In h → h.Ns mainGlobals mg → mg d.name = some (.ref fa) → HeadTabs q (K w.params) h → LamX.LawAtS l w (K w.params) (CX w) k n x mg fa h)
    (hCX : ∀ (w : World) (H : Hp) (s : Shared) (e : Value) (s' : Shared), CX w [] H s (fun _ _ _ => False) e s' → False) :
    PySem.W.WalkO q loose XP YP l.row.toRowW d [] (fun f vs => PySem.call f vs) := by
  refine Att.attach_callB hn hdf fun w s₀ s₁ mg mb fa o pm cd doc a vs ns G Y ho hd hcd hmg hobj hints hlen hbits hg => ?_
  have KX := hY w _ Y
  obtain ⟨fd, cs, sp, hT, nT, C, hb, hsp, hF⟩ := F w mg fa _ KX G.T.g hmg fun x c Pt hx ht => by
    obtain ⟨e, he⟩ := Option.isSome_iff_exists.mp hx
    exact PySem.W.tab_of G.T KX he ht
  exact LamX.law_callTs KX G.T.g G.T.b G.T.builtins G.T.nolimit hg hT nT C G.T.bmain hobj hints (Nat.le_trans hlen hn2) hr hF hb (fun H hH hS => hsp H a ns hlen hbits hH hS) fun H e s' => hCX w H s₁ e s'
theorem tabG_0 {H : Hp} {Pt : Addr} (h : H Pt = some (.tbl #[])) : GxR.TabG H Pt := ⟨#[], h, True.intro⟩
end DL

set_option Elab.async false
set_option linter.all false
set_option maxRecDepth 100000
set_option maxHeartbeats 4000000
namespace LW
open PySem PySem.Spec PyProof.Rows L2 DL
/-! _law_alike at any depth -/
def okA : Nat → D → Prop
  | 0, v => scal v = true ∧ shD v
  | n + 1, v => okA n v ∨ ∃ vs, (v = .lst vs ∨ v = .tup vs) ∧ vs.length ≤ 1000 ∧ ∀ u ∈ vs, okA n u
theorem okA_up {v : D} {n : Nat} (h : okA n v) : okA (n + 1) v := .inl h
theorem okA_0 {v : D} (h : scal v = true ∧ shD v) : ∀ n, okA n v
  | 0 => h
  | n + 1 => .inl (okA_0 h n)
theorem okA_i {i : Int} {n : Nat} : okA n (.int i) := okA_0 (v := .int i) ⟨rfl, rfl⟩ n
theorem okA_b {i : Bool} {n : Nat} : okA n (.bl i) := okA_0 (v := .bl i) ⟨rfl, rfl⟩ n
theorem okA_n {n : Nat} : okA n .non := okA_0 (v := .non) ⟨rfl, rfl⟩ n
theorem okA_s {x : Str} {n : Nat} (h : shD (.str x)) : okA n (.str x) := okA_0 ⟨rfl, h⟩ n
theorem okA_lst {vs : List D} {n : Nat} (hl : vs.length ≤ 1000) (h : ∀ u ∈ vs, okA n u) : okA (n + 1) (.lst vs) := .inr ⟨vs, .inl rfl, hl, h⟩
theorem okA_tup {vs : List D} {n : Nat} (hl : vs.length ≤ 1000) (h : ∀ u ∈ vs, okA n u) : okA (n + 1) (.tup vs) := .inr ⟨vs, .inr rfl, hl, h⟩
theorem okL_nil {n : Nat} : ∀ u ∈ ([] : List D), okA n u := fun _ h => nomatch h
theorem okL_cons {n : Nat} {a : D} {l : List D} (h : okA n a) (t : ∀ u ∈ l, okA n u) : ∀ u ∈ a :: l, okA n u := fun u hu => by
  rcases List.mem_cons.mp hu with rfl | hu
  · exact h
  · exact t u hu
def sp_alikeN (n : Nat) : PSp := fun ds q _ => ∃ v, ds = [v, v] ∧ okA n v ∧ q (.d (.bl true))
theorem alikeN0_ok (sp ds q x) (h : sp_alikeN 0 ds q x) : T__law_alike sp (SEr q x) (startE ["found", "due", "k"] ds) := by
  obtain ⟨v, rfl, ⟨a, b⟩, h⟩ := h
  exact alike0_ok sp _ q x ⟨v, rfl, a, b, h⟩
theorem eq_nil : eqD (.lst []) (.lst []) = true := by
  unfold eqD pyD pyDs
  simp [PyData.eqv, PyData.eqvAll]
theorem alikeN_ok (n : Nat) : ∀ (m : Nat), m ≤ n + 1 → ∀ (ds q x) (h : sp_alikeN m ds q x), T__law_alike (sp_alikeN n) (SEr q x) (startE ["found", "due", "k"] ds)
  | 0, _, ds, q, x, h => alikeN0_ok _ ds q x h
  | m + 1, hm, ds, q, x, h => by
    obtain ⟨v, rfl, h0 | ⟨vs, hv, hl, hv2⟩, h⟩ := h
    · exact alikeN_ok n m (by omega) _ q x ⟨v, rfl, h0, h⟩
    have up : ∀ k, m + k = n → ∀ u ∈ vs, okA n u := fun k hk => by
      subst hk
      induction k with
      | zero => exact hv2
      | succ k ih => exact fun u hu => okA_up (ih (by omega) u hu)
    have hv2 := up (n - m) (by omega)
    have e2 : (2 : Int) ^ 62 = 4611686018427387904 := by decide
    rcases hv with rfl | rfl
    all_goals
      unfold T__law_alike
      walk_at "dl"
      refine ⟨by omega, by omega, ?_⟩
    · refine ⟨rfl, fun i acc ρ => acc = [] ∧ ρ = [.va (.lst vs), .va (.lst vs), .no], ⟨rfl, rfl⟩, fun i d acc ρ hd hP => ?_, fun acc ρ hP => ?_⟩
      · obtain ⟨rfl, rfl⟩ := hP
        obtain ⟨hi, rfl⟩ := rng_get hd
        have hi : i < vs.length := by omega
        have g := List.getElem?_eq_getElem hi
        rw [show (0 : Int) + (i : Int) = (i : Int) by omega]
        (walk_at "dl"; repeat (simp only [atI_at (n := i) rfl g]; walk_at "dl"))
        refine ⟨_, rfl, hv2 _ (List.getElem_mem hi), ?_⟩
        walk_at "dl"
        rfl
      · obtain ⟨rfl, rfl⟩ := hP
        walk_at "dl"
        refine ⟨sh_nil, sh_nil, ?_⟩
        rw [eq_nil]
        exact h
    · refine ⟨rfl, fun i acc ρ => acc = [] ∧ ρ = [.va (.tup vs), .va (.tup vs), .no], ⟨rfl, rfl⟩, fun i d acc ρ hd hP => ?_, fun acc ρ hP => ?_⟩
      · obtain ⟨rfl, rfl⟩ := hP
        obtain ⟨hi, rfl⟩ := rng_get hd
        have hi : i < vs.length := by omega
        have g := List.getElem?_eq_getElem hi
        rw [show (0 : Int) + (i : Int) = (i : Int) by omega]
        (walk_at "dl"; repeat (simp only [atI_at (n := i) rfl g]; walk_at "dl"))
        refine ⟨_, rfl, hv2 _ (List.getElem_mem hi), ?_⟩
        walk_at "dl"
        rfl
      · obtain ⟨rfl, rfl⟩ := hP
        walk_at "dl"
        refine ⟨sh_nil, sh_nil, ?_⟩
        rw [eq_nil]
        exact h
end LW

set_option Elab.async false
set_option linter.all false
set_option maxRecDepth 100000
set_option maxHeartbeats 4000000
namespace LW
open PySem PySem.Spec PyProof.Rows L2 DL
/-! _law_same at any depth -/
def T__law_same (sp__law_same : PSp) : ST := (sSeq (sIf (bOr (tT (t2 (fIs false) (tV 1) (tK .non))) (tT (t2 (fIs false) (tV 0) (tK .non)))) (sRet (tAnd' (t2 (fIs false) (tV 1) (tK .non)) (t2 (fIs false) (tV 0) (tK .non)))) sNext)
    (sSeq (sIf (bOr (tTr (t1 (fIsi .tuple) (tV 1))) (tTr (t1 (fIsi .list) (tV 1)))) (sSeq (sIf (bOr (tT (t2 (fNe) (t1 (fIsi .tuple) (tV 1)) (t1 (fIsi .tuple) (tV 0)))) (tT (t2 (fNe) (t1 (fIsi .list) (tV 1)) (t1 (fIsi .list) (tV 0))))) (sRet (tK (.bl false))) sNext)
    (sSeq (sIf (tT (t2 (fNe) (tC' fLen (aCons (tV 0) aNil)) (tC' fLen (aCons (tV 1) aNil)))) (sRet (tK (.bl false))) sNext)
    (sSeq (sFor (iR1 (aCons (tC' fLen (aCons (tV 1) aNil)) aNil)) (gVar 2) (sIf (bNot (tTr (tCall' sp__law_same (aCons (t2 fIx (tV 0) (tV 2)) (aCons (t2 fIx (tV 1) (tV 2)) aNil))))) (sRet (tK (.bl false))) sNext))
    (sRet (tK (.bl true)))))) sNext)
    (sSeq (sIf (tT (t2 (fNe) (t1 (fIsi .bool) (tV 1)) (t1 (fIsi .bool) (tV 0)))) (sRet (tK (.bl false))) sNext)
    (sSeq (sIf (bOr (tT (t2 (fNe) (t1 (fIsi .int) (tV 1)) (t1 (fIsi .int) (tV 0)))) (tT (t2 (fNe) (t1 (fIsi .str) (tV 1)) (t1 (fIsi .str) (tV 0))))) (sRet (tK (.bl false))) sNext)
    (sRet (t2 (fEq) (tV 0) (tV 1)))))))
theorem same0_ok (sp ds q x) (h : sp_alikeN 0 ds q x) : T__law_same sp (SEr q x) (startE ["actual", "due", "k"] ds) := by
  obtain ⟨v, rfl, ⟨a, b⟩, h⟩ := h
  unfold T__law_same
  cases v with
  | non => walk_at "dl"; exact h
  | bl b => walk_at "dl"; exact h
  | int i => walk_at "dl"; exact h
  | str z =>
    walk_at "dl"
    refine ⟨b, b, ?_⟩
    rw [eqv_self_str]
    exact h
  | _ => cases a
theorem sameN_ok (n : Nat) : ∀ (m : Nat), m ≤ n + 1 → ∀ (ds q x) (h : sp_alikeN m ds q x), T__law_same (sp_alikeN n) (SEr q x) (startE ["actual", "due", "k"] ds)
  | 0, _, ds, q, x, h => same0_ok _ ds q x h
  | m + 1, hm, ds, q, x, h => by
    obtain ⟨v, rfl, h0 | ⟨vs, hv, hl, hv2⟩, h⟩ := h
    · exact sameN_ok n m (by omega) _ q x ⟨v, rfl, h0, h⟩
    have up : ∀ k, m + k = n → ∀ u ∈ vs, okA n u := fun k hk => by
      subst hk
      induction k with
      | zero => exact hv2
      | succ k ih => exact fun u hu => okA_up (ih (by omega) u hu)
    have hv2 := up (n - m) (by omega)
    have e2 : (2 : Int) ^ 62 = 4611686018427387904 := by decide
    rcases hv with rfl | rfl
    all_goals
      unfold T__law_same
      walk_at "dl"
      refine ⟨by omega, by omega, ?_⟩
    · refine ⟨fun i ρ => ∃ s, ρ = [.va (.lst vs), .va (.lst vs), s], ⟨_, rfl⟩, fun i d ρ hd hP => ?_, fun ρ hP => ?_⟩
      · obtain ⟨s, rfl⟩ := hP
        obtain ⟨hi, rfl⟩ := rng_get hd
        have hi : i < vs.length := by omega
        have g := List.getElem?_eq_getElem hi
        rw [show (0 : Int) + (i : Int) = (i : Int) by omega]
        (walk_at "dl"; repeat (simp only [atI_at (n := i) rfl g]; walk_at "dl"))
        refine ⟨_, rfl, hv2 _ (List.getElem_mem hi), ?_⟩
        walk_at "dl"
        exact ⟨_, rfl⟩
      · obtain ⟨s, rfl⟩ := hP
        walk_at "dl"
        exact h
    · refine ⟨fun i ρ => ∃ s, ρ = [.va (.tup vs), .va (.tup vs), s], ⟨_, rfl⟩, fun i d ρ hd hP => ?_, fun ρ hP => ?_⟩
      · obtain ⟨s, rfl⟩ := hP
        obtain ⟨hi, rfl⟩ := rng_get hd
        have hi : i < vs.length := by omega
        have g := List.getElem?_eq_getElem hi
        rw [show (0 : Int) + (i : Int) = (i : Int) by omega]
        (walk_at "dl"; repeat (simp only [atI_at (n := i) rfl g]; walk_at "dl"))
        refine ⟨_, rfl, hv2 _ (List.getElem_mem hi), ?_⟩
        walk_at "dl"
        exact ⟨_, rfl⟩
      · obtain ⟨s, rfl⟩ := hP
        walk_at "dl"
        exact h
end LW

set_option Elab.async false
set_option linter.all false
set_option maxRecDepth 100000
set_option maxHeartbeats 4000000
namespace DL
open PySem PySem.Spec PyProof.Rows L2 LW
/-! sizes at once -/
theorem cmx {i j : Int} (h : i.natAbs < 18446744073709551616) (k : j.natAbs < 18446744073709551616) : CMulX i j := cmulx (a := 64) (b := 64) h k (by decide)
theorem cshl {i j : Int} (hi : i.natAbs < 18446744073709551616) (h0 : 0 ≤ j) (h : j ≤ 1000000) : CShl i j := by
  refine ⟨h0, ?_⟩
  have h1 : Builtin.Int.intBits i ≤ 64 := PyProof.Rows.intBits_le (k := 64) hi
  have h2 : ((Builtin.Int.intBits i : Nat) : Int) ≤ 64 := by omega
  have h3 : (2 : Int) ^ 27 = 134217728 := by decide
  rw [h3]
  omega
theorem cdw {i j : Int} (h0 : 0 < j) (h : j.natAbs < 18446744073709551616) : CDivW i j := cdivw (b := 64) h0 h (by decide)
theorem ints_all (ns : List Int) : ∃ ms : List Int, ns.map D.int = ms.map D.int := ⟨ns, rfl⟩
/-! == of data -/
theorem eqD_self {v : D} (h : shD v) : eqD v v = true := SeqAt.eqv_refl _ (SeqAt.canLay_of_shaped h)
def eqDs (xs ys : List D) : Bool := PyData.eqvAll (pyDs xs) (pyDs ys)
theorem eqD_ll {xs ys : List D} : eqD (.lst xs) (.lst ys) = eqDs xs ys := by unfold eqD eqDs pyD; rw [PyData.eqv]
theorem eqD_tt {xs ys : List D} : eqD (.tup xs) (.tup ys) = eqDs xs ys := by unfold eqD eqDs pyD; rw [PyData.eqv]
theorem eqDs_nn : eqDs [] [] = true := by unfold eqDs pyDs; simp [PyData.eqvAll]
theorem eqDs_nc {y : D} {ys : List D} : eqDs [] (y :: ys) = false := by unfold eqDs pyDs; simp [PyData.eqvAll]
theorem eqDs_cn {y : D} {ys : List D} : eqDs (y :: ys) [] = false := by unfold eqDs pyDs; simp [PyData.eqvAll]
theorem eqDs_cc {x y : D} {xs ys : List D} : eqDs (x :: xs) (y :: ys) = (eqD x y && eqDs xs ys) := by
  show PyData.eqvAll (pyDs (x :: xs)) (pyDs (y :: ys)) = _
  rw [show pyDs (x :: xs) = pyD x :: pyDs xs from by rw [pyDs], show pyDs (y :: ys) = pyD y :: pyDs ys from by rw [pyDs], PyData.eqvAll]
  rfl
theorem eqDs_map {α : Type} [DecidableEq α] {f : α → D} (hf : ∀ a b, eqD (f a) (f b) = decide (a = b)) : ∀ xs ys : List α, eqDs (xs.map f) (ys.map f) = decide (xs = ys)
  | [], [] => by rw [decide_eq_true rfl]; exact eqDs_nn
  | [], y :: ys => by rw [decide_eq_false (fun z => nomatch z)]; exact eqDs_nc
  | x :: xs, [] => by rw [decide_eq_false (fun z => nomatch z)]; exact eqDs_cn
  | x :: xs, y :: ys => by
    rw [List.map_cons, List.map_cons, eqDs_cc, hf, eqDs_map hf xs ys, ← Bool.decide_and]
    exact decide_eq_decide.mpr (by rw [List.cons.injEq])
theorem eqL_map {α : Type} [DecidableEq α] {f : α → D} (hf : ∀ a b, eqD (f a) (f b) = decide (a = b)) (xs ys : List α) : eqD (.lst (xs.map f)) (.lst (ys.map f)) = decide (xs = ys) := by rw [eqD_ll, eqDs_map hf]
theorem eqT_map {α : Type} [DecidableEq α] {f : α → D} (hf : ∀ a b, eqD (f a) (f b) = decide (a = b)) (xs ys : List α) : eqD (.tup (xs.map f)) (.tup (ys.map f)) = decide (xs = ys) := by rw [eqD_tt, eqDs_map hf]
theorem eqN (a b : Nat) : eqD (.int (a : Nat)) (.int (b : Nat)) = decide (a = b) := by
  rw [eq_int']
  exact decide_eq_decide.mpr (by omega)
theorem okA_sh : ∀ (n : Nat) {v : D}, okA n v → (pyD v).canLay0 = true ∧ (pyD v).depth ≤ n + 1
  | 0, v, h => by
    obtain ⟨h1, h2⟩ := h
    refine ⟨SeqAt.canLay_of_shaped h2, ?_⟩
    cases v <;> first | (unfold pyD; unfold PyData.depth; omega) | cases h1
  | n + 1, v, h => by
    rcases h with h | ⟨vs, hv, hl, hu⟩
    · exact ⟨(okA_sh n h).1, Nat.le_succ_of_le (okA_sh n h).2⟩
    · have all : ∀ l : List D, (∀ u ∈ l, LW.okA n u) → PyData.canLayAll0 (pyDs l) = true ∧ PyData.depthAll (pyDs l) ≤ n + 1 := fun l => by
        induction l with
        | nil => intro _; simp [pyDs, PyData.canLayAll0, PyData.depthAll]
        | cons a l ih =>
          intro hl
          obtain ⟨a1, a2⟩ := okA_sh n (hl a List.mem_cons_self)
          obtain ⟨i1, i2⟩ := ih fun u hu => hl u (List.mem_cons_of_mem _ hu)
          refine ⟨by simp [pyDs, PyData.canLayAll0, a1, i1], ?_⟩
          simp only [pyDs, PyData.depthAll]
          exact Nat.max_le.mpr ⟨a2, i2⟩
      obtain ⟨i1, i2⟩ := all vs hu
      rcases hv with rfl | rfl
      · exact ⟨by simp [pyD, PyData.canLay0, i1], by simp only [pyD, PyData.depth]; omega⟩
      · exact ⟨by simp [pyD, PyData.canLay0, i1], by simp only [pyD, PyData.depth]; omega⟩
theorem shA {n : Nat} {v : D} (h : LW.okA n v) (hn : n ≤ 60) : shD v := by
  obtain ⟨a, b⟩ := okA_sh n h
  show (_ && decide _) = true
  rw [a, decide_eq_true (by omega)]
  rfl
theorem at01 (u v : D) (c : Bool) : ∃ z, (z = u ∨ z = v) ∧ atI [u, v] (if c = true then 1 else 0) = some z := by
  cases c
  · exact ⟨u, .inl rfl, rfl⟩
  · exact ⟨v, .inr rfl, rfl⟩
theorem e12 : (10 : Int) ^ Int.toNat 12 = 1000000000000 := by decide
theorem e13 : (10 : Int) ^ Int.toNat 13 = 10000000000000 := by decide
theorem cpow10 {j : Int} (h : 0 ≤ j ∧ j ≤ 1000000) : CPow 10 j := ⟨h.1, h.2, by decide⟩
theorem nat_of {r : Int} (h : 0 ≤ r) : ∃ t : Nat, r = (t : Int) := Int.eq_ofNat_of_zero_le h
theorem eqV' {a b v : D} (h : shD v) (ha : a = v) (hb : b = v) : eqD a b = true := by rw [ha, hb]; exact eqD_self h
end DL

set_option Elab.async false
set_option linter.all false
namespace K91
/-! ### a path through all squares, in plain numbers -/
def stp (q s : Nat) (c : Nat × Nat) : Nat × Nat :=
  if q = 0 then (c.2, c.1) else if q = 1 then (c.1, c.2 + s) else if q = 2 then (c.1 + s, c.2 + s) else (2 * s - 1 - c.2, s - 1 - c.1)
def cell : Nat → Nat → Nat × Nat
  | 0, _ => (0, 0)
  | n + 1, k => stp (k / 4 ^ n % 4) (2 ^ n) (cell n k)
def place : Nat → Nat → Nat → Nat
  | 0, _, _ => 0
  | n + 1, x, y => if x < 2 ^ n ∧ y < 2 ^ n then place n y x else if x < 2 ^ n then 4 ^ n + place n x (y - 2 ^ n) else if 2 ^ n ≤ y then 2 * 4 ^ n + place n (x - 2 ^ n) (y - 2 ^ n)
    else 3 * 4 ^ n + place n (2 ^ n - 1 - y) (2 * 2 ^ n - 1 - x)
theorem p2 (n : Nat) : 0 < 2 ^ n := Nat.pow_pos (by decide)
theorem p4 (n : Nat) : 0 < 4 ^ n := Nat.pow_pos (by decide)
theorem p2s (n : Nat) : 2 ^ (n + 1) = 2 * 2 ^ n := by rw [Nat.pow_succ, Nat.mul_comm]
theorem p4s (n : Nat) : 4 ^ (n + 1) = 4 * 4 ^ n := by rw [Nat.pow_succ, Nat.mul_comm]
theorem stp_lt {q s : Nat} {c : Nat × Nat} (h1 : c.1 < s) (h2 : c.2 < s) : (stp q s c).1 < 2 * s ∧ (stp q s c).2 < 2 * s := by
  unfold stp
  split
  · exact ⟨by show c.2 < _; omega, by show c.1 < _; omega⟩
  split
  · exact ⟨by show c.1 < _; omega, by show c.2 + s < _; omega⟩
  split
  · exact ⟨by show c.1 + s < _; omega, by show c.2 + s < _; omega⟩
  · exact ⟨by show 2 * s - 1 - c.2 < _; omega, by show s - 1 - c.1 < _; omega⟩
theorem cell_lt : ∀ (n k : Nat), (cell n k).1 < 2 ^ n ∧ (cell n k).2 < 2 ^ n
  | 0, _ => ⟨Nat.one_pos, Nat.one_pos⟩
  | n + 1, k => by
    rw [p2s]
    exact stp_lt (cell_lt n k).1 (cell_lt n k).2
theorem cell_add : ∀ (n k j : Nat), cell n (k + j * 4 ^ n) = cell n k
  | 0, _, _ => rfl
  | n + 1, k, j => by
    have e : k + j * 4 ^ (n + 1) = k + (4 * j) * 4 ^ n := by rw [p4s, ← Nat.mul_assoc, Nat.mul_comm j 4]
    unfold cell
    rw [e, cell_add n, Nat.add_mul_div_right _ _ (p4 n), Nat.add_mul_mod_self_left]
theorem cell_q (n q r : Nat) (hr : r < 4 ^ n) (hq : q < 4) : cell (n + 1) (r + q * 4 ^ n) = stp q (2 ^ n) (cell n r) := by
  show stp ((r + q * 4 ^ n) / 4 ^ n % 4) (2 ^ n) (cell n (r + q * 4 ^ n)) = _
  rw [cell_add, Nat.add_mul_div_right _ _ (p4 n), Nat.div_eq_of_lt hr, Nat.zero_add, Nat.mod_eq_of_lt hq]
theorem cases_q {n k : Nat} (h : k < 4 ^ (n + 1)) : ∃ r q, r < 4 ^ n ∧ q < 4 ∧ k = r + q * 4 ^ n := by
  refine ⟨k % 4 ^ n, k / 4 ^ n, Nat.mod_lt _ (p4 n), ?_, ?_⟩
  · exact Nat.div_lt_of_lt_mul (by rw [p4s, Nat.mul_comm] at h; exact h)
  · have := Nat.div_add_mod k (4 ^ n)
    rw [Nat.mul_comm] at this
    omega
theorem q4 {q : Nat} (h : q < 4) : q = 0 ∨ q = 1 ∨ q = 2 ∨ q = 3 := by omega
theorem place_cell : ∀ (n k : Nat), k < 4 ^ n → place n (cell n k).1 (cell n k).2 = k
  | 0, k, h => by
    have : k = 0 := by have : (4 : Nat) ^ 0 = 1 := rfl; omega
    subst this
    rfl
  | n + 1, k, h => by
    obtain ⟨r, q, hr, hq, rfl⟩ := cases_q h
    have ih := place_cell n r hr
    have l := cell_lt n r
    rw [cell_q n q r hr hq]
    obtain ⟨⟨x, y⟩, hc⟩ : ∃ c, cell n r = c := ⟨_, rfl⟩
    rw [hc] at ih l ⊢
    have l1 : x < 2 ^ n := l.1
    have l2 : y < 2 ^ n := l.2
    have ih : place n x y = r := ih
    generalize hs : 2 ^ n = s at *
    unfold place
    rw [hs]
    rcases q4 hq with rfl | rfl | rfl | rfl
    · show (if y < s ∧ x < s then place n x y else _) = _
      rw [if_pos ⟨l2, l1⟩]
      omega
    · show (if x < s ∧ y + s < s then _ else if x < s then 4 ^ n + place n x (y + s - s) else _) = _
      rw [if_neg (by omega), if_pos l1, Nat.add_sub_cancel]
      omega
    · show (if x + s < s ∧ y + s < s then _ else if x + s < s then _ else if s ≤ y + s then 2 * 4 ^ n + place n (x + s - s) (y + s - s) else _) = _
      rw [if_neg (by omega), if_neg (by omega), if_pos (by omega), Nat.add_sub_cancel, Nat.add_sub_cancel]
      omega
    · show (if 2 * s - 1 - y < s ∧ s - 1 - x < s then _ else if 2 * s - 1 - y < s then _ else if s ≤ s - 1 - x then _ else 3 * 4 ^ n + place n (s - 1 - (s - 1 - x)) (2 * s - 1 - (2 * s - 1 - y))) = _
      rw [if_neg (by omega), if_neg (by omega), if_neg (by omega), show s - 1 - (s - 1 - x) = x by omega, show 2 * s - 1 - (2 * s - 1 - y) = y by omega]
      omega
theorem cell_place : ∀ (n x y : Nat), x < 2 ^ n → y < 2 ^ n → cell n (place n x y) = (x, y) ∧ place n x y < 4 ^ n
  | 0, x, y, hx, hy => by
    have e : (2 : Nat) ^ 0 = 1 := rfl
    have : x = 0 := by omega
    have : y = 0 := by omega
    subst x y
    exact ⟨rfl, by decide⟩
  | n + 1, x, y, hx, hy => by
    rw [p2s] at hx hy
    have go : ∀ q p, q < 4 → p < 4 ^ n → q * 4 ^ n + p < 4 ^ (n + 1) ∧ cell (n + 1) (q * 4 ^ n + p) = stp q (2 ^ n) (cell n p) := fun q p hq hp => by
      refine ⟨?_, ?_⟩
      · rw [p4s]
        have : q * 4 ^ n ≤ 3 * 4 ^ n := Nat.mul_le_mul_right _ (by omega)
        omega
      · rw [Nat.add_comm (q * 4 ^ n) p]
        exact cell_q n q p hp hq
    unfold place
    split
    · rename_i h
      obtain ⟨e, l⟩ := cell_place n y x h.2 h.1
      obtain ⟨g1, g2⟩ := go 0 _ (by decide) l
      rw [Nat.zero_mul, Nat.zero_add] at g1 g2
      exact ⟨by rw [g2, e]; rfl, g1⟩
    split
    · rename_i h1 h
      obtain ⟨e, l⟩ := cell_place n x (y - 2 ^ n) h (by omega)
      obtain ⟨g1, g2⟩ := go 1 _ (by decide) l
      rw [Nat.one_mul] at g1 g2
      refine ⟨?_, g1⟩
      rw [g2, e]
      show (x, y - 2 ^ n + 2 ^ n) = _
      rw [Nat.sub_add_cancel (by omega)]
    split
    · rename_i h1 h2 h
      obtain ⟨e, l⟩ := cell_place n (x - 2 ^ n) (y - 2 ^ n) (by omega) (by omega)
      obtain ⟨g1, g2⟩ := go 2 _ (by decide) l
      refine ⟨?_, g1⟩
      rw [g2, e]
      show (x - 2 ^ n + 2 ^ n, y - 2 ^ n + 2 ^ n) = _
      rw [Nat.sub_add_cancel (by omega), Nat.sub_add_cancel (by omega)]
    · rename_i h1 h2 h
      obtain ⟨e, l⟩ := cell_place n (2 ^ n - 1 - y) (2 * 2 ^ n - 1 - x) (by omega) (by omega)
      obtain ⟨g1, g2⟩ := go 3 _ (by decide) l
      refine ⟨?_, g1⟩
      rw [g2, e]
      show (2 * 2 ^ n - 1 - (2 * 2 ^ n - 1 - x), 2 ^ n - 1 - (2 ^ n - 1 - y)) = _
      rw [show 2 * 2 ^ n - 1 - (2 * 2 ^ n - 1 - x) = x by omega, show 2 ^ n - 1 - (2 ^ n - 1 - y) = y by omega]
theorem cell_0 : ∀ n, cell n 0 = (0, 0)
  | 0 => rfl
  | n + 1 => by
    show stp (0 / 4 ^ n % 4) _ (cell n 0) = _
    rw [Nat.zero_div, cell_0 n]
    rfl
theorem cell_end : ∀ n, cell n (4 ^ n - 1) = (2 ^ n - 1, 0)
  | 0 => rfl
  | n + 1 => by
    have h := p4 n
    have h2 := p2 n
    have e : 4 ^ (n + 1) - 1 = (4 ^ n - 1) + 3 * 4 ^ n := by rw [p4s]; omega
    rw [e, cell_q n 3 _ (by omega) (by decide), cell_end n, p2s]
    show (2 * 2 ^ n - 1 - 0, 2 ^ n - 1 - (2 ^ n - 1)) = _
    rw [Nat.sub_zero, Nat.sub_self]
/-- side by side -/
def Adj (a b : Nat × Nat) : Prop := (a.1 = b.1 ∧ (a.2 + 1 = b.2 ∨ b.2 + 1 = a.2)) ∨ (a.2 = b.2 ∧ (a.1 + 1 = b.1 ∨ b.1 + 1 = a.1))
theorem stp_adj {q s : Nat} {a b : Nat × Nat} (h : Adj a b) (a1 : a.1 < s) (a2 : a.2 < s) (b1 : b.1 < s) (b2 : b.2 < s) : Adj (stp q s a) (stp q s b) := by
  obtain ⟨ax, ay⟩ := a
  obtain ⟨bx, by'⟩ := b
  unfold Adj at *
  unfold stp
  simp only at *
  split
  · simp only; omega
  split
  · simp only; omega
  split
  · simp only; omega
  · simp only; omega
theorem cell_adj : ∀ (n k : Nat), k + 1 < 4 ^ n → Adj (cell n k) (cell n (k + 1))
  | 0, k, h => by have : (4 : Nat) ^ 0 = 1 := rfl; omega
  | n + 1, k, h => by
    obtain ⟨r, q, hr, hq, rfl⟩ := cases_q (show k < 4 ^ (n + 1) by omega)
    rw [cell_q n q r hr hq]
    by_cases hl : r + 1 < 4 ^ n
    · rw [show r + q * 4 ^ n + 1 = (r + 1) + q * 4 ^ n by omega, cell_q n q (r + 1) hl hq]
      exact stp_adj (cell_adj n r hl) (cell_lt n r).1 (cell_lt n r).2 (cell_lt n (r + 1)).1 (cell_lt n (r + 1)).2
    · have er : r = 4 ^ n - 1 := by omega
      have hp := p4 n
      have h2 := p2 n
      have hq3 : q < 3 := by
        rw [p4s] at h
        rcases q4 hq with rfl | rfl | rfl | rfl <;> omega
      have e : r + q * 4 ^ n + 1 = 0 + (q + 1) * 4 ^ n := by rw [Nat.add_mul]; omega
      rw [e, cell_q n (q + 1) 0 hp (by omega), er, cell_end, cell_0]
      generalize 2 ^ n = s at *
      rcases (by omega : q = 0 ∨ q = 1 ∨ q = 2) with rfl | rfl | rfl
      · left; show (0 = 0 ∧ (s - 1 + 1 = 0 + s ∨ _)); omega
      · right; show (0 + s = 0 + s ∧ (s - 1 + 1 = 0 + s ∨ _)); omega
      · left; show (s - 1 + s = 2 * s - 1 - 0 ∧ (_ ∨ s - 1 - 0 + 1 = 0 + s)); omega
/-! ### numbers with a whole part alike -/
theorem sub_div' {a m y : Nat} (ha : 0 < a) (h : y < a * m) : (a * m - 1 - y) / a = m - 1 - y / a := by
  have e := Nat.div_add_mod y a
  have l := Nat.mod_lt y ha
  have hu : y / a < m := Nat.div_lt_of_lt_mul h
  generalize y / a = u at *
  generalize y % a = v at *
  obtain ⟨k, rfl⟩ : ∃ k, m = u + 1 + k := ⟨m - u - 1, by omega⟩
  have e1 : a * (u + 1 + k) = a * u + a + a * k := by rw [Nat.mul_add, Nat.mul_add, Nat.mul_one]
  have : a * (u + 1 + k) - 1 - y = a * k + (a - 1 - v) := by omega
  rw [this, Nat.mul_add_div ha, Nat.div_eq_of_lt (by omega)]
  omega
theorem stp_div {q a t : Nat} {c e : Nat × Nat} (ha : 0 < a) (c1 : c.1 < a * t) (c2 : c.2 < a * t) (e1 : e.1 < a * t) (e2 : e.2 < a * t) (h1 : c.1 / a = e.1 / a) (h2 : c.2 / a = e.2 / a) : (stp q (a * t) c).1 / a = (stp q (a * t) e).1 / a ∧ (stp q (a * t) c).2 / a = (stp q (a * t) e).2 / a := by
  unfold stp
  split
  · exact ⟨h2, h1⟩
  split
  · exact ⟨h1, by show (c.2 + a * t) / a = (e.2 + a * t) / a; rw [Nat.add_mul_div_left _ _ ha, Nat.add_mul_div_left _ _ ha, h2]⟩
  split
  · exact ⟨by show (c.1 + a * t) / a = (e.1 + a * t) / a; rw [Nat.add_mul_div_left _ _ ha, Nat.add_mul_div_left _ _ ha, h1], by show (c.2 + a * t) / a = (e.2 + a * t) / a; rw [Nat.add_mul_div_left _ _ ha, Nat.add_mul_div_left _ _ ha, h2]⟩
  · refine ⟨?_, ?_⟩
    · show (2 * (a * t) - 1 - c.2) / a = (2 * (a * t) - 1 - e.2) / a
      rw [show 2 * (a * t) = a * (2 * t) by rw [Nat.mul_left_comm], sub_div' ha (by rw [Nat.mul_left_comm]; omega), sub_div' ha (by rw [Nat.mul_left_comm]; omega), h2]
    · show (a * t - 1 - c.1) / a = (a * t - 1 - e.1) / a
      rw [sub_div' ha c1, sub_div' ha e1, h1]
theorem cell_block (k m m' : Nat) (h : m / 4 ^ k = m' / 4 ^ k) : ∀ j, (cell (k + j) m).1 / 2 ^ k = (cell (k + j) m').1 / 2 ^ k ∧ (cell (k + j) m).2 / 2 ^ k = (cell (k + j) m').2 / 2 ^ k
  | 0 => by
    have a := cell_lt k m
    have b := cell_lt k m'
    show (cell k m).1 / _ = (cell k m').1 / _ ∧ (cell k m).2 / _ = (cell k m').2 / _
    rw [Nat.div_eq_of_lt a.1, Nat.div_eq_of_lt a.2, Nat.div_eq_of_lt b.1, Nat.div_eq_of_lt b.2]
    exact ⟨rfl, rfl⟩
  | j + 1 => by
    have ih := cell_block k m m' h j
    have a := cell_lt (k + j) m
    have b := cell_lt (k + j) m'
    have eq : m / 4 ^ (k + j) = m' / 4 ^ (k + j) := by rw [Nat.pow_add, ← Nat.div_div_eq_div_mul, ← Nat.div_div_eq_div_mul, h]
    show (stp (m / 4 ^ (k + j) % 4) (2 ^ (k + j)) (cell (k + j) m)).1 / _ = (stp (m' / 4 ^ (k + j) % 4) (2 ^ (k + j)) (cell (k + j) m')).1 / _ ∧ (stp (m / 4 ^ (k + j) % 4) (2 ^ (k + j)) (cell (k + j) m)).2 / _ = (stp (m' / 4 ^ (k + j) % 4) (2 ^ (k + j)) (cell (k + j) m')).2 / _
    rw [eq]
    have e2 : 2 ^ (k + j) = 2 ^ k * 2 ^ j := Nat.pow_add ..
    rw [e2] at a b ⊢
    exact stp_div (p2 k) a.1 a.2 b.1 b.2 ih.1 ih.2
/-- all of them -/
def cells (n : Nat) : List (Nat × Nat) := (List.range (4 ^ n)).map (cell n)
theorem cells_len (n : Nat) : (cells n).length = 4 ^ n := by simp [cells]
theorem cells_get {n k : Nat} (h : k < 4 ^ n) : (cells n)[k]? = some (cell n k) := by
  unfold cells
  rw [List.getElem?_map, List.getElem?_range h]
  rfl
theorem range_add (a b : Nat) : List.range (a + b) = List.range a ++ (List.range b).map (a + ·) := by
  rw [List.range_add]
theorem cells_s (n : Nat) : cells (n + 1) = (cells n).map (stp 0 (2 ^ n)) ++ (cells n).map (stp 1 (2 ^ n)) ++ (cells n).map (stp 2 (2 ^ n)) ++ (cells n).map (stp 3 (2 ^ n)) := by
  have e : 4 ^ (n + 1) = 4 ^ n + 4 ^ n + 4 ^ n + 4 ^ n := by rw [p4s]; omega
  have go : ∀ q a, q < 4 → a = q * 4 ^ n → ((List.range (4 ^ n)).map (a + ·)).map (cell (n + 1)) = (cells n).map (stp q (2 ^ n)) := fun q a hq ha => by
    unfold cells
    rw [List.map_map, List.map_map]
    refine List.map_congr_left fun r hr => ?_
    show cell (n + 1) (a + r) = stp q (2 ^ n) (cell n r)
    rw [ha, Nat.add_comm (q * 4 ^ n) r]
    exact cell_q n q r (List.mem_range.mp hr) hq
  show (List.range (4 ^ (n + 1))).map (cell (n + 1)) = _
  rw [e, List.range_add, List.range_add, List.range_add, List.map_append, List.map_append, List.map_append, go 1 _ (by decide) (by omega), go 2 _ (by decide) (by omega), go 3 _ (by decide) (by omega)]
  have g0 := go 0 0 (by decide) (by omega)
  rw [← g0]
  congr 3
  rw [List.map_map]
  refine List.map_congr_left fun r _ => ?_
  show _ = cell (n + 1) (0 + r)
  rw [Nat.zero_add]
theorem nodup_map_of {α β : Type} {f : α → β} : ∀ {l : List α}, (∀ a ∈ l, ∀ b ∈ l, f a = f b → a = b) → l.Nodup → (l.map f).Nodup
  | [], _, _ => List.nodup_nil
  | a :: l, h, n => by
    rw [List.map_cons, List.nodup_cons]
    rw [List.nodup_cons] at n
    refine ⟨fun z => ?_, nodup_map_of (fun x hx y hy => h x (List.mem_cons_of_mem _ hx) y (List.mem_cons_of_mem _ hy)) n.2⟩
    obtain ⟨b, hb, e⟩ := List.mem_map.mp z
    have := h b (List.mem_cons_of_mem _ hb) a List.mem_cons_self e
    exact n.1 (this ▸ hb)
theorem cells_nodup (n : Nat) : (cells n).Nodup := by
  unfold cells
  refine nodup_map_of (fun a ha b hb e => ?_) List.nodup_range
  have h1 := place_cell n a (List.mem_range.mp ha)
  have h2 := place_cell n b (List.mem_range.mp hb)
  rw [← h1, ← h2, e]
end K91

set_option Elab.async false
set_option linter.all false
set_option maxRecDepth 100000
set_option maxHeartbeats 4000000
namespace K91
open PySem PySem.Spec PyProof.Rows L2 DL
/-! ### the text: printed by gen.py -/
def topS (i : Nat) : Stmt := PySem.Challenge.pw_kiteheld_k91_whole_paths_through_all_squ.main.body.getD i (.Pass ⟨0, 0, 0, 0⟩)
/-- what the top says of names -/
structure Top (K : PySem.W.Frag) (mg : Str → Option Value) (C_KiteError C_OutOfRange C_NotThere : Addr) : Prop where
  b_abs : mg "abs" = none
  b_bool : mg "bool" = none
  b_dict : mg "dict" = none
  b_int : mg "int" = none
  b_isinstance : mg "isinstance" = none
  b_len : mg "len" = none
  b_list : mg "list" = none
  b_max : mg "max" = none
  b_min : mg "min" = none
  b_range : mg "range" = none
  b_reversed : mg "reversed" = none
  b_str : mg "str" = none
  b_tuple : mg "tuple" = none
  g_MOST_ORDER : ∃ t, mg "MOST_ORDER" = some (.int 40 t)
  x_KiteError : ErrC K mg "KiteError" C_KiteError
  x_OutOfRange : ErrC K mg "OutOfRange" C_OutOfRange
  x_NotThere : ErrC K mg "NotThere" C_NotThere
/-! is_number -/
abbrev s_is_number : Stmt := topS 5
abbrev N_is_number : List Str := ["value", "least", "most"]
abbrev p_is_number : List Str := ["value", "least", "most"]
theorem sc_is_number : FnScope N_is_number p_is_number (defScope s_is_number) := ⟨rfl, rfl, rfl, by decide +kernel, rfl, by decide +kernel, by decide +kernel⟩
def T_is_number : ST := (sRet (tAnd' (t1 (fIsi .int) (tV 0)) (tAnd' (tNot' (t1 (fIsi .bool) (tV 0))) (tCh fLe fLe (tV 1) (tV 0) (tV 2)))))
theorem d_is_number {P : Program} {w : World} {K : PySem.W.Frag} {mg : Str → Option Value} {base : Heap} {T : Addr → Prop} {k : Nat} {C_KiteError C_OutOfRange C_NotThere : Addr} (Z : Top K mg C_KiteError C_OutOfRange C_NotThere) {fa : Addr} (cdv : Value) (A : Around) (outer : List Env) (s : Shared) (H : Hp) (E : XK)
    (hr : Room k (A.deeper (envOfC "is_number" (defScope s_is_number) s.heap.objs.size fa cdv))) :
    DSs (cxOf (L2N.CX P w) P w K mg base N_is_number "is_number" (defScope s_is_number) fa cdv A outer s H E) ⟨none, T⟩ (fun c d _ H => E c d H) (defBody s_is_number) (T_is_number) :=
  (dss_one (ds_ret (de_and (de_isi .int Z.b_isinstance Z.b_int (by decide +kernel) (de_v 0)) (de_and (de_not (de_isi .bool Z.b_isinstance Z.b_bool (by decide +kernel) (de_v 0))) (de_one (de_chain op_le le_ok op_le le_ok (de_v 1) (de_v 0) (de_v 2)))))))
theorem ok_is_number {P : Program} {w : World} {K : PySem.W.Frag} {mg : Str → Option Value} {base : Heap} {T : Addr → Prop} {k : Nat} {C_KiteError C_OutOfRange C_NotThere : Addr} (Z : Top K mg C_KiteError C_OutOfRange C_NotThere) {fa : Addr} {fd : FuncData} (F : Fun K "is_number" "is_number" s_is_number fa fd) (hm : mg "is_number" = some (.ref fa)) (hb : Binds K fd p_is_number []) {sp : PSp} (len : ∀ ds q x, sp ds q x → ds.length = 3)
    (hsp : ∀ ds q x, sp ds q x → T_is_number ⟨fun _ => q (.d .non), fun r _ => q r, fun _ => False, fun _ => False, fun c _ => x c⟩ (startE N_is_number ds)) : CallD P w K mg base T (k + 1) "is_number" p_is_number sp :=
  ⟨fa, fd, fn_ok F sc_is_number len (fun cdv A outer s H E hr => d_is_number Z cdv A outer s H E hr) hsp, hm, F.kp, hb⟩
/-! see_order -/
abbrev s_see_order : Stmt := topS 8
abbrev N_see_order : List Str := ["n"]
abbrev p_see_order : List Str := ["n"]
theorem sc_see_order : FnScope N_see_order p_see_order (defScope s_see_order) := ⟨rfl, rfl, rfl, by decide +kernel, rfl, by decide +kernel, by decide +kernel⟩
def T_see_order (sp_is_number : PSp) (C_OutOfRange : Addr) : ST := (sIf (bNot (tTr (tCall' sp_is_number (aCons (tV 0) (aCons (tK (.int 0)) (aCons (tK (.int 40)) aNil)))))) (sRaise C_OutOfRange) sNext)
theorem d_see_order {P : Program} {w : World} {K : PySem.W.Frag} {mg : Str → Option Value} {base : Heap} {T : Addr → Prop} {k : Nat} {C_KiteError C_OutOfRange C_NotThere : Addr} {sp_is_number : PSp} (Z : Top K mg C_KiteError C_OutOfRange C_NotThere) (c_is_number : CallD P w K mg base T k "is_number" p_is_number sp_is_number) {fa : Addr} (cdv : Value) (A : Around) (outer : List Env) (s : Shared) (H : Hp) (E : XK)
    (hr : Room k (A.deeper (envOfC "see_order" (defScope s_see_order) s.heap.objs.size fa cdv))) :
    DSs (cxOf (L2N.CX P w) P w K mg base N_see_order "see_order" (defScope s_see_order) fa cdv A outer s H E) ⟨none, T⟩ (fun c d _ H => E c d H) (defBody s_see_order) (T_see_order sp_is_number C_OutOfRange) :=
  (dss_one (ds_if (db_not (db_tru (de_c c_is_number (L2N.takes_of rfl rfl rfl rfl) hr (da_cons (de_v 0) (da_cons de_int (da_cons (de_gi (by rfl) Z.g_MOST_ORDER) da_nil)))))) (dss_one (ds_raise rfl (L2N.takes_of rfl rfl rfl rfl) Z.x_OutOfRange)) dss_nil))
theorem ok_see_order {P : Program} {w : World} {K : PySem.W.Frag} {mg : Str → Option Value} {base : Heap} {T : Addr → Prop} {k : Nat} {C_KiteError C_OutOfRange C_NotThere : Addr} {sp_is_number : PSp} (Z : Top K mg C_KiteError C_OutOfRange C_NotThere) (c_is_number : CallD P w K mg base T k "is_number" p_is_number sp_is_number) {fa : Addr} {fd : FuncData} (F : Fun K "see_order" "see_order" s_see_order fa fd) (hm : mg "see_order" = some (.ref fa)) (hb : Binds K fd p_see_order []) {sp : PSp} (len : ∀ ds q x, sp ds q x → ds.length = 1)
    (hsp : ∀ ds q x, sp ds q x → T_see_order sp_is_number C_OutOfRange ⟨fun _ => q (.d .non), fun r _ => q r, fun _ => False, fun _ => False, fun c _ => x c⟩ (startE N_see_order ds)) : CallD P w K mg base T (k + 1) "see_order" p_see_order sp :=
  ⟨fa, fd, fn_ok F sc_see_order len (fun cdv A outer s H E hr => d_see_order Z c_is_number cdv A outer s H E hr) hsp, hm, F.kp, hb⟩
/-! cell_on_path -/
abbrev s_cell_on_path : Stmt := topS 9
abbrev N_cell_on_path : List Str := ["n", "number", "x", "y", "order", "side", "quarter"]
abbrev p_cell_on_path : List Str := ["n", "number"]
theorem sc_cell_on_path : FnScope N_cell_on_path p_cell_on_path (defScope s_cell_on_path) := ⟨rfl, rfl, rfl, by decide +kernel, rfl, by decide +kernel, by decide +kernel⟩
def T_cell_on_path (sp_see_order : PSp) (sp_is_number : PSp) (C_NotThere : Addr) : ST := (sSeq (sExpr (tCall' sp_see_order (aCons (tV 0) aNil)))
    (sSeq (sIf (bNot (tTr (tCall' sp_is_number (aCons (tV 1) (aCons (tK (.int 0)) (aCons (t2 fSub (t2 fShl (tK (.int 1)) (t2 fMul (tK (.int 2)) (tV 0))) (tK (.int 1))) aNil)))))) (sRaise C_NotThere) sNext)
    (sSeq (sAsg (tTup' (aCons (tK (.int 0)) (aCons (tK (.int 0)) aNil))) (gTupD 2 (gsCons (gVar 2) (gsCons (gVar 3) gsNil))))
    (sSeq (sFor (iR1 (aCons (tV 0) aNil)) (gVar 4) (sSeq (sSet 5 (t2 fShl (tK (.int 1)) (tV 4)))
    (sSeq (sSet 6 (t2 fMod (t2 fShr (tV 1) (t2 fMul (tK (.int 2)) (tV 4))) (tK (.int 4))))
    (sIf (tT (t2 (fEq) (tV 6) (tK (.int 0)))) (sPar 2 3 (tV 3) (tV 2)) (sIf (tT (t2 (fEq) (tV 6) (tK (.int 1)))) (sAug (fI0 fun i j => .int (i + j)) 3 (tV 5)) (sIf (tT (t2 (fEq) (tV 6) (tK (.int 2)))) (sPar 2 3 (t2 fAdd (tV 2) (tV 5)) (t2 fAdd (tV 3) (tV 5))) (sPar 2 3 (t2 fSub (t2 fSub (t2 fMul (tK (.int 2)) (tV 5)) (tK (.int 1))) (tV 3)) (t2 fSub (t2 fSub (tV 5) (tK (.int 1))) (tV 2)))))))))
    (sRet (tTup' (aCons (tV 2) (aCons (tV 3) aNil))))))))
theorem d_cell_on_path {P : Program} {w : World} {K : PySem.W.Frag} {mg : Str → Option Value} {base : Heap} {T : Addr → Prop} {k : Nat} {C_KiteError C_OutOfRange C_NotThere : Addr} {sp_see_order : PSp} {sp_is_number : PSp} (Z : Top K mg C_KiteError C_OutOfRange C_NotThere) (c_see_order : CallD P w K mg base T k "see_order" p_see_order sp_see_order) (c_is_number : CallD P w K mg base T k "is_number" p_is_number sp_is_number) {fa : Addr} (cdv : Value) (A : Around) (outer : List Env) (s : Shared) (H : Hp) (E : XK)
    (hr : Room k (A.deeper (envOfC "cell_on_path" (defScope s_cell_on_path) s.heap.objs.size fa cdv))) :
    DSs (cxOf (L2N.CX P w) P w K mg base N_cell_on_path "cell_on_path" (defScope s_cell_on_path) fa cdv A outer s H E) ⟨none, T⟩ (fun c d _ H => E c d H) (defBody s_cell_on_path) (T_cell_on_path sp_see_order sp_is_number C_NotThere) :=
  (dss_cons (ds_expr (de_c c_see_order (L2N.takes_of rfl rfl rfl rfl) hr (da_cons (de_v 0) da_nil)))
    (dss_cons (ds_if (db_not (db_tru (de_c c_is_number (L2N.takes_of rfl rfl rfl rfl) hr (da_cons (de_v 1) (da_cons de_int (da_cons (de_sub (de_shl de_int (de_mul de_int (de_v 0))) de_int) da_nil)))))) (dss_one (ds_raise rfl (L2N.takes_of rfl rfl rfl rfl) Z.x_NotThere)) dss_nil)
    (dss_cons (ds_asg (de_tup (da_cons de_int (da_cons de_int da_nil))) (dg_tup rfl (dgs_cons (dg_name (i := 2) sc_cell_on_path.nd rfl (.inl rfl)) (dgs_cons (dg_name (i := 3) sc_cell_on_path.nd rfl (.inl rfl)) dgs_nil))))
    (dss_cons (ds_for (L2.passes_of rfl) rfl (di_range1 Z.b_range (da_cons (de_v 0) da_nil)) (dg_name (i := 4) sc_cell_on_path.nd rfl (.inl rfl)) (dss_cons (ds_set (i := 5) sc_cell_on_path.nd rfl (.inl rfl) (de_shl de_int (de_v 4)))
    (dss_cons (ds_set (i := 6) sc_cell_on_path.nd rfl (.inl rfl) (de_mod (de_shr (de_v 1) (de_mul de_int (de_v 4))) de_int))
    (dss_one (ds_if (db_eq hr (de_v 6) de_int) (dss_one (ds_par (i := 2) (j := 3) rfl sc_cell_on_path.nd rfl rfl (by decide) rfl rfl (de_v 3) (de_v 2) (by rfl))) (dss_one (ds_if (db_eq hr (de_v 6) de_int) (dss_one (ds_aug (i := 3) sc_cell_on_path.nd rfl (.inl rfl) iop_add (rI0_ok fun _ _ _ _ => .int _) (de_v 5))) (dss_one (ds_if (db_eq hr (de_v 6) de_int) (dss_one (ds_par (i := 2) (j := 3) rfl sc_cell_on_path.nd rfl rfl (by decide) rfl rfl (de_add (de_v 2) (de_v 5)) (de_add (de_v 3) (de_v 5)) (by rfl))) (dss_one (ds_par (i := 2) (j := 3) rfl sc_cell_on_path.nd rfl rfl (by decide) rfl rfl (de_sub (de_sub (de_mul de_int (de_v 5)) de_int) (de_v 3)) (de_sub (de_sub (de_v 5) de_int) (de_v 2)) (by rfl))))))))))))
    (dss_one (ds_ret (de_tup (da_cons (de_v 2) (da_cons (de_v 3) da_nil)))))))))
theorem ok_cell_on_path {P : Program} {w : World} {K : PySem.W.Frag} {mg : Str → Option Value} {base : Heap} {T : Addr → Prop} {k : Nat} {C_KiteError C_OutOfRange C_NotThere : Addr} {sp_see_order : PSp} {sp_is_number : PSp} (Z : Top K mg C_KiteError C_OutOfRange C_NotThere) (c_see_order : CallD P w K mg base T k "see_order" p_see_order sp_see_order) (c_is_number : CallD P w K mg base T k "is_number" p_is_number sp_is_number) {fa : Addr} {fd : FuncData} (F : Fun K "cell_on_path" "cell_on_path" s_cell_on_path fa fd) (hm : mg "cell_on_path" = some (.ref fa)) (hb : Binds K fd p_cell_on_path []) {sp : PSp} (len : ∀ ds q x, sp ds q x → ds.length = 2)
    (hsp : ∀ ds q x, sp ds q x → T_cell_on_path sp_see_order sp_is_number C_NotThere ⟨fun _ => q (.d .non), fun r _ => q r, fun _ => False, fun _ => False, fun c _ => x c⟩ (startE N_cell_on_path ds)) : CallD P w K mg base T (k + 1) "cell_on_path" p_cell_on_path sp :=
  ⟨fa, fd, fn_ok F sc_cell_on_path len (fun cdv A outer s H E hr => d_cell_on_path Z c_see_order c_is_number cdv A outer s H E hr) hsp, hm, F.kp, hb⟩
/-! place_on_path -/
abbrev s_place_on_path : Stmt := topS 10
abbrev N_place_on_path : List Str := ["n", "cell", "x", "y", "found", "order", "side", "quarter"]
abbrev p_place_on_path : List Str := ["n", "cell"]
theorem sc_place_on_path : FnScope N_place_on_path p_place_on_path (defScope s_place_on_path) := ⟨rfl, rfl, rfl, by decide +kernel, rfl, by decide +kernel, by decide +kernel⟩
def T_place_on_path (sp_see_order : PSp) (sp_is_number : PSp) (C_NotThere : Addr) : ST := (sSeq (sExpr (tCall' sp_see_order (aCons (tV 0) aNil)))
    (sSeq (sAsg (tV 1) (gTupD 2 (gsCons (gVar 2) (gsCons (gVar 3) gsNil))))
    (sSeq (sIf (bOr (bNot (tTr (tCall' sp_is_number (aCons (tV 2) (aCons (tK (.int 0)) (aCons (t2 fSub (t2 fShl (tK (.int 1)) (tV 0)) (tK (.int 1))) aNil)))))) (bNot (tTr (tCall' sp_is_number (aCons (tV 3) (aCons (tK (.int 0)) (aCons (t2 fSub (t2 fShl (tK (.int 1)) (tV 0)) (tK (.int 1))) aNil))))))) (sRaise C_NotThere) sNext)
    (sSeq (sSet 4 (tK (.int 0)))
    (sSeq (sFor (iR3 (aCons (t2 fSub (tV 0) (tK (.int 1))) (aCons (t1 fNeg (tK (.int 1))) (aCons (t1 fNeg (tK (.int 1))) aNil)))) (gVar 5) (sSeq (sSet 6 (t2 fShl (tK (.int 1)) (tV 5)))
    (sSeq (sIf (bAnd (tT (t2 (fLt) (tV 2) (tV 6))) (tT (t2 (fLt) (tV 3) (tV 6)))) (sSeq (sSet 7 (tK (.int 0)))
    (sPar 2 3 (tV 3) (tV 2))) (sIf (tT (t2 (fLt) (tV 2) (tV 6))) (sSeq (sSet 7 (tK (.int 1)))
    (sAug (fI0 fun i j => .int (i - j)) 3 (tV 6))) (sIf (tT (t2 (fGe) (tV 3) (tV 6))) (sSeq (sSet 7 (tK (.int 2)))
    (sPar 2 3 (t2 fSub (tV 2) (tV 6)) (t2 fSub (tV 3) (tV 6)))) (sSeq (sSet 7 (tK (.int 3)))
    (sPar 2 3 (t2 fSub (t2 fSub (tV 6) (tK (.int 1))) (tV 3)) (t2 fSub (t2 fSub (t2 fMul (tK (.int 2)) (tV 6)) (tK (.int 1))) (tV 2)))))))
    (sSet 4 (t2 fAdd (t2 fMul (tK (.int 4)) (tV 4)) (tV 7))))))
    (sRet (tV 4)))))))
theorem d_place_on_path {P : Program} {w : World} {K : PySem.W.Frag} {mg : Str → Option Value} {base : Heap} {T : Addr → Prop} {k : Nat} {C_KiteError C_OutOfRange C_NotThere : Addr} {sp_see_order : PSp} {sp_is_number : PSp} (Z : Top K mg C_KiteError C_OutOfRange C_NotThere) (c_see_order : CallD P w K mg base T k "see_order" p_see_order sp_see_order) (c_is_number : CallD P w K mg base T k "is_number" p_is_number sp_is_number) {fa : Addr} (cdv : Value) (A : Around) (outer : List Env) (s : Shared) (H : Hp) (E : XK)
    (hr : Room k (A.deeper (envOfC "place_on_path" (defScope s_place_on_path) s.heap.objs.size fa cdv))) :
    DSs (cxOf (L2N.CX P w) P w K mg base N_place_on_path "place_on_path" (defScope s_place_on_path) fa cdv A outer s H E) ⟨none, T⟩ (fun c d _ H => E c d H) (defBody s_place_on_path) (T_place_on_path sp_see_order sp_is_number C_NotThere) :=
  (dss_cons (ds_expr (de_c c_see_order (L2N.takes_of rfl rfl rfl rfl) hr (da_cons (de_v 0) da_nil)))
    (dss_cons (ds_asg (de_v 1) (dg_tup rfl (dgs_cons (dg_name (i := 2) sc_place_on_path.nd rfl (.inl rfl)) (dgs_cons (dg_name (i := 3) sc_place_on_path.nd rfl (.inl rfl)) dgs_nil))))
    (dss_cons (ds_if (dw_or (db_not (db_tru (de_c c_is_number (L2N.takes_of rfl rfl rfl rfl) hr (da_cons (de_v 2) (da_cons de_int (da_cons (de_sub (de_shl de_int (de_v 0)) de_int) da_nil)))))) (dw_or1 (db_not (db_tru (de_c c_is_number (L2N.takes_of rfl rfl rfl rfl) hr (da_cons (de_v 3) (da_cons de_int (da_cons (de_sub (de_shl de_int (de_v 0)) de_int) da_nil)))))))).toB (dss_one (ds_raise rfl (L2N.takes_of rfl rfl rfl rfl) Z.x_NotThere)) dss_nil)
    (dss_cons (ds_set (i := 4) sc_place_on_path.nd rfl (.inl rfl) de_int)
    (dss_cons (ds_for (L2.passes_of rfl) rfl (di_range3 Z.b_range (da_cons (de_sub (de_v 0) de_int) (da_cons (de_neg de_int) (da_cons (de_neg de_int) da_nil)))) (dg_name (i := 5) sc_place_on_path.nd rfl (.inl rfl)) (dss_cons (ds_set (i := 6) sc_place_on_path.nd rfl (.inl rfl) (de_shl de_int (de_v 5)))
    (dss_cons (ds_if (dw_and (db_lt (de_v 2) (de_v 6)) (dw_and1 (db_lt (de_v 3) (de_v 6)))).toB (dss_cons (ds_set (i := 7) sc_place_on_path.nd rfl (.inl rfl) de_int)
    (dss_one (ds_par (i := 2) (j := 3) rfl sc_place_on_path.nd rfl rfl (by decide) rfl rfl (de_v 3) (de_v 2) (by rfl)))) (dss_one (ds_if (db_lt (de_v 2) (de_v 6)) (dss_cons (ds_set (i := 7) sc_place_on_path.nd rfl (.inl rfl) de_int)
    (dss_one (ds_aug (i := 3) sc_place_on_path.nd rfl (.inl rfl) iop_sub (rI0_ok fun _ _ _ _ => .int _) (de_v 6)))) (dss_one (ds_if (db_ge (de_v 3) (de_v 6)) (dss_cons (ds_set (i := 7) sc_place_on_path.nd rfl (.inl rfl) de_int)
    (dss_one (ds_par (i := 2) (j := 3) rfl sc_place_on_path.nd rfl rfl (by decide) rfl rfl (de_sub (de_v 2) (de_v 6)) (de_sub (de_v 3) (de_v 6)) (by rfl)))) (dss_cons (ds_set (i := 7) sc_place_on_path.nd rfl (.inl rfl) de_int)
    (dss_one (ds_par (i := 2) (j := 3) rfl sc_place_on_path.nd rfl rfl (by decide) rfl rfl (de_sub (de_sub (de_v 6) de_int) (de_v 3)) (de_sub (de_sub (de_mul de_int (de_v 6)) de_int) (de_v 2)) (by rfl)))))))))
    (dss_one (ds_set (i := 4) sc_place_on_path.nd rfl (.inl rfl) (de_add (de_mul de_int (de_v 4)) (de_v 7)))))))
    (dss_one (ds_ret (de_v 4))))))))
theorem ok_place_on_path {P : Program} {w : World} {K : PySem.W.Frag} {mg : Str → Option Value} {base : Heap} {T : Addr → Prop} {k : Nat} {C_KiteError C_OutOfRange C_NotThere : Addr} {sp_see_order : PSp} {sp_is_number : PSp} (Z : Top K mg C_KiteError C_OutOfRange C_NotThere) (c_see_order : CallD P w K mg base T k "see_order" p_see_order sp_see_order) (c_is_number : CallD P w K mg base T k "is_number" p_is_number sp_is_number) {fa : Addr} {fd : FuncData} (F : Fun K "place_on_path" "place_on_path" s_place_on_path fa fd) (hm : mg "place_on_path" = some (.ref fa)) (hb : Binds K fd p_place_on_path []) {sp : PSp} (len : ∀ ds q x, sp ds q x → ds.length = 2)
    (hsp : ∀ ds q x, sp ds q x → T_place_on_path sp_see_order sp_is_number C_NotThere ⟨fun _ => q (.d .non), fun r _ => q r, fun _ => False, fun _ => False, fun c _ => x c⟩ (startE N_place_on_path ds)) : CallD P w K mg base T (k + 1) "place_on_path" p_place_on_path sp :=
  ⟨fa, fd, fn_ok F sc_place_on_path len (fun cdv A outer s H E hr => d_place_on_path Z c_see_order c_is_number cdv A outer s H E hr) hsp, hm, F.kp, hb⟩
/-! _law_draws -/
abbrev s__law_draws : Stmt := topS 12
abbrev N__law_draws : List Str := ["script", "draws", "cell", "number", "first", "k", "seed"]
abbrev p__law_draws : List Str := ["script"]
theorem sc__law_draws : FnScope N__law_draws p__law_draws (defScope s__law_draws) := ⟨rfl, rfl, rfl, by decide +kernel, rfl, by decide +kernel, by decide +kernel⟩
def T__law_draws : ST := (sSeq (sSet 1 (tLst' aNil))
    (sSeq (sFor (iSeqD (tV 0)) (gVar 2) (sSeq (sSet 3 (tC' fAbs (aCons (tV 2) aNil)))
    (sSeq (sIf (tT (t2 (fLt) (tV 3) (t2 fPow (tK (.int 10)) (tK (.int 18))))) (sSeq (sSet 4 (t2 fMod (tC' fInt1 (aCons (t2 fAdd (t2 fMul (tV 3) (tK (.int 48271))) (tK (.int 11))) aNil)) (tK (.int 2147483647))))
    (sSeq (sExpr (tAppend (tV 1) (aCons (t2 fMod (tC' fInt1 (aCons (t2 fAdd (t2 fMul (tV 4) (tK (.int 69621))) (tV 3)) aNil)) (tK (.int 2147483629))) aNil)))
    (sSeq (sExpr (tAppend (tV 1) (aCons (t2 fMod (tC' fInt1 (aCons (t2 fAdd (tV 4) (t2 fDiv (tV 3) (tK (.int 7)))) aNil)) (tK (.int 1000003))) aNil)))
    (sSet 3 (tK (.int 0)))))) sNext)
    (sFor (iR1 (aCons (tK (.int 60)) aNil)) (gVar 5) (sIf (tT (t2 (fGt) (tV 3) (tK (.int 0)))) (sSeq (sExpr (tAppend (tV 1) (aCons (t2 fMod (tC' fInt1 (aCons (tV 3) aNil)) (tK (.int 997))) aNil)))
    (sSet 3 (t2 fDiv (tV 3) (tK (.int 997))))) sNext)))))
    (sSeq (sSet 6 (tK (.int 1)))
    (sSeq (sIf (tT (t2 (fGt) (tC' fLen (aCons (tV 0) aNil)) (tK (.int 0)))) (sSet 6 (t2 fAdd (tK (.int 1)) (tC' fAbs (aCons (t2 fIx (tV 0) (tK (.int 0))) aNil)))) sNext)
    (sSeq (sFor (iR1 (aCons (tK (.int 900)) aNil)) (gVar 5) (sSeq (sSet 6 (t2 fMod (tC' fInt1 (aCons (t2 fAdd (t2 fMul (tV 6) (tK (.int 48271))) (tK (.int 69621))) aNil)) (tK (.int 2147483647))))
    (sExpr (tAppend (tV 1) (aCons (t2 fDiv (tV 6) (tK (.int 5))) aNil)))))
    (sRet (t1 fLRev (tV 1))))))))
theorem d__law_draws {P : Program} {w : World} {K : PySem.W.Frag} {mg : Str → Option Value} {base : Heap} {T : Addr → Prop} {k : Nat} {C_KiteError C_OutOfRange C_NotThere : Addr} (Z : Top K mg C_KiteError C_OutOfRange C_NotThere) {fa : Addr} (cdv : Value) (A : Around) (outer : List Env) (s : Shared) (H : Hp) (E : XK)
    (hr : Room k (A.deeper (envOfC "_law_draws" (defScope s__law_draws) s.heap.objs.size fa cdv))) :
    DSs (cxOf (L2N.CX P w) P w K mg base N__law_draws "_law_draws" (defScope s__law_draws) fa cdv A outer s H E) ⟨none, T⟩ (fun c d _ H => E c d H) (defBody s__law_draws) (T__law_draws) :=
  (dss_cons (ds_set (i := 1) sc__law_draws.nd rfl (.inl rfl) (de_lst da_nil))
    (dss_cons (ds_for (L2.passes_of rfl) rfl (di_seq (de_v 0)) (dg_name (i := 2) sc__law_draws.nd rfl (.inl rfl)) (dss_cons (ds_set (i := 3) sc__law_draws.nd rfl (.inl rfl) (de_abs Z.b_abs (de_v 2)))
    (dss_cons (ds_if (db_lt (de_v 3) (de_pow de_int de_int)) (dss_cons (ds_set (i := 4) sc__law_draws.nd rfl (.inl rfl) (de_mod (de_int1 Z.b_int (de_add (de_mul (de_v 3) de_int) de_int)) de_int))
    (dss_cons (ds_expr (de_append (de_v 1) (da_cons (de_mod (de_int1 Z.b_int (de_add (de_mul (de_v 4) de_int) (de_v 3))) de_int) da_nil)))
    (dss_cons (ds_expr (de_append (de_v 1) (da_cons (de_mod (de_int1 Z.b_int (de_add (de_v 4) (de_div (de_v 3) de_int))) de_int) da_nil)))
    (dss_one (ds_set (i := 3) sc__law_draws.nd rfl (.inl rfl) de_int))))) dss_nil)
    (dss_one (ds_for (L2.passes_of rfl) rfl (di_range1 Z.b_range (da_cons de_int da_nil)) (dg_name (i := 5) sc__law_draws.nd rfl (.inl rfl)) (dss_one (ds_if (db_gt (de_v 3) de_int) (dss_cons (ds_expr (de_append (de_v 1) (da_cons (de_mod (de_int1 Z.b_int (de_v 3)) de_int) da_nil)))
    (dss_one (ds_set (i := 3) sc__law_draws.nd rfl (.inl rfl) (de_div (de_v 3) de_int)))) dss_nil)))))))
    (dss_cons (ds_set (i := 6) sc__law_draws.nd rfl (.inl rfl) de_int)
    (dss_cons (ds_if (db_gt (de_len Z.b_len (de_v 0)) de_int) (dss_one (ds_set (i := 6) sc__law_draws.nd rfl (.inl rfl) (de_add de_int (de_abs Z.b_abs (de_ix (de_v 0) de_int (fun _ _ => rfl)))))) dss_nil)
    (dss_cons (ds_for (L2.passes_of rfl) rfl (di_range1 Z.b_range (da_cons de_int da_nil)) (dg_name (i := 5) sc__law_draws.nd rfl (.inl rfl)) (dss_cons (ds_set (i := 6) sc__law_draws.nd rfl (.inl rfl) (de_mod (de_int1 Z.b_int (de_add (de_mul (de_v 6) de_int) de_int)) de_int))
    (dss_one (ds_expr (de_append (de_v 1) (da_cons (de_div (de_v 6) de_int) da_nil))))))
    (dss_one (ds_ret (de_lrev rfl Z.b_list Z.b_reversed (de_v 1)))))))))
theorem ok__law_draws {P : Program} {w : World} {K : PySem.W.Frag} {mg : Str → Option Value} {base : Heap} {T : Addr → Prop} {k : Nat} {C_KiteError C_OutOfRange C_NotThere : Addr} (Z : Top K mg C_KiteError C_OutOfRange C_NotThere) {fa : Addr} {fd : FuncData} (F : Fun K "_law_draws" "_law_draws" s__law_draws fa fd) (hm : mg "_law_draws" = some (.ref fa)) (hb : Binds K fd p__law_draws []) {sp : PSp} (len : ∀ ds q x, sp ds q x → ds.length = 1)
    (hsp : ∀ ds q x, sp ds q x → T__law_draws ⟨fun _ => q (.d .non), fun r _ => q r, fun _ => False, fun _ => False, fun c _ => x c⟩ (startE N__law_draws ds)) : CallD P w K mg base T (k + 1) "_law_draws" p__law_draws sp :=
  ⟨fa, fd, fn_ok F sc__law_draws len (fun cdv A outer s H E hr => d__law_draws Z cdv A outer s H E hr) hsp, hm, F.kp, hb⟩
/-! _law_take -/
abbrev s__law_take : Stmt := topS 13
abbrev N__law_take : List Str := ["draws", "bound"]
abbrev p__law_take : List Str := ["draws", "bound"]
theorem sc__law_take : FnScope N__law_take p__law_take (defScope s__law_take) := ⟨rfl, rfl, rfl, by decide +kernel, rfl, by decide +kernel, by decide +kernel⟩
def T__law_take : ST := (sSeq (sIf (tT (t2 (fEq) (tC' fLen (aCons (tV 0) aNil)) (tK (.int 0)))) (sRet (tK (.int 0))) sNext)
    (sRet (t2 fMod (tC' fInt1 (aCons (tPop (tV 0)) aNil)) (tV 1))))
theorem d__law_take {P : Program} {w : World} {K : PySem.W.Frag} {mg : Str → Option Value} {base : Heap} {T : Addr → Prop} {k : Nat} {C_KiteError C_OutOfRange C_NotThere : Addr} (Z : Top K mg C_KiteError C_OutOfRange C_NotThere) {fa : Addr} (p : Addr) (cdv : Value) (A : Around) (outer : List Env) (s : Shared) (H : Hp) (E : XK)
    (hr : Room k (A.deeper (envOfC "_law_take" (defScope s__law_take) s.heap.objs.size fa cdv))) :
    DSs (cxOf (L2N.CX P w) P w K mg base N__law_take "_law_take" (defScope s__law_take) fa cdv A outer s H E) ⟨some p, T⟩ (fun c d _ H => E c d H) (defBody s__law_take) (T__law_take) :=
  (dss_cons (ds_if (db_eq hr (de_len Z.b_len (de_v 0)) de_int) (dss_one (ds_ret de_int)) dss_nil)
    (dss_one (ds_ret (de_mod (de_int1 Z.b_int (de_pop (de_v 0))) (de_v 1)))))
theorem ok__law_take {P : Program} {w : World} {K : PySem.W.Frag} {mg : Str → Option Value} {base : Heap} {T : Addr → Prop} {k : Nat} {C_KiteError C_OutOfRange C_NotThere : Addr} (Z : Top K mg C_KiteError C_OutOfRange C_NotThere) {fa : Addr} {fd : FuncData} (F : Fun K "_law_take" "_law_take" s__law_take fa fd) (hm : mg "_law_take" = some (.ref fa)) (hb : Binds K fd p__law_take []) {sp : PSpIO} (len : ∀ d ds q x, sp d ds q x → ds.length + 1 = 2)
    (hsp : ∀ d ds q x, sp d ds q x → T__law_take ⟨fun ρ => some! (ioS ρ[0]?) fun y => q (.d .non) y, fun r ρ => some! (ioS ρ[0]?) fun y => q r y, fun _ => False, fun _ => False, fun c ρ => some! (ioS ρ[0]?) fun y => x c y⟩ (startIO N__law_take d ds)) : CallIO P w K mg base T (k + 1) "_law_take" p__law_take sp :=
  ⟨fa, fd, fn_okIO F sc__law_take len (fun p cdv A outer s H E hr => d__law_take Z p cdv A outer s H E hr) hsp, hm, F.kp, hb⟩
/-! _law_same -/
abbrev s__law_same : Stmt := topS 14
abbrev N__law_same : List Str := ["actual", "due", "k"]
abbrev p__law_same : List Str := ["actual", "due"]
theorem sc__law_same : FnScope N__law_same p__law_same (defScope s__law_same) := ⟨rfl, rfl, rfl, by decide +kernel, rfl, by decide +kernel, by decide +kernel⟩
def T__law_same (sp__law_same : PSp) : ST := (sSeq (sIf (bOr (tT (t2 (fIs false) (tV 1) (tK .non))) (tT (t2 (fIs false) (tV 0) (tK .non)))) (sRet (tAnd' (t2 (fIs false) (tV 1) (tK .non)) (t2 (fIs false) (tV 0) (tK .non)))) sNext)
    (sSeq (sIf (bOr (tTr (t1 (fIsi .tuple) (tV 1))) (tTr (t1 (fIsi .list) (tV 1)))) (sSeq (sIf (bOr (tT (t2 (fNe) (t1 (fIsi .tuple) (tV 1)) (t1 (fIsi .tuple) (tV 0)))) (tT (t2 (fNe) (t1 (fIsi .list) (tV 1)) (t1 (fIsi .list) (tV 0))))) (sRet (tK (.bl false))) sNext)
    (sSeq (sIf (tT (t2 (fNe) (tC' fLen (aCons (tV 0) aNil)) (tC' fLen (aCons (tV 1) aNil)))) (sRet (tK (.bl false))) sNext)
    (sSeq (sFor (iR1 (aCons (tC' fLen (aCons (tV 1) aNil)) aNil)) (gVar 2) (sIf (bNot (tTr (tCall' sp__law_same (aCons (t2 fIx (tV 0) (tV 2)) (aCons (t2 fIx (tV 1) (tV 2)) aNil))))) (sRet (tK (.bl false))) sNext))
    (sRet (tK (.bl true)))))) sNext)
    (sSeq (sIf (tT (t2 (fNe) (t1 (fIsi .bool) (tV 1)) (t1 (fIsi .bool) (tV 0)))) (sRet (tK (.bl false))) sNext)
    (sSeq (sIf (bOr (tT (t2 (fNe) (t1 (fIsi .int) (tV 1)) (t1 (fIsi .int) (tV 0)))) (tT (t2 (fNe) (t1 (fIsi .str) (tV 1)) (t1 (fIsi .str) (tV 0))))) (sRet (tK (.bl false))) sNext)
    (sRet (t2 (fEq) (tV 0) (tV 1)))))))
theorem d__law_same {P : Program} {w : World} {K : PySem.W.Frag} {mg : Str → Option Value} {base : Heap} {T : Addr → Prop} {k : Nat} {C_KiteError C_OutOfRange C_NotThere : Addr} {sp__law_same : PSp} (Z : Top K mg C_KiteError C_OutOfRange C_NotThere) (c__law_same : CallD P w K mg base T k "_law_same" p__law_same sp__law_same) {fa : Addr} (cdv : Value) (A : Around) (outer : List Env) (s : Shared) (H : Hp) (E : XK)
    (hr : Room k (A.deeper (envOfC "_law_same" (defScope s__law_same) s.heap.objs.size fa cdv))) :
    DSs (cxOf (L2N.CX P w) P w K mg base N__law_same "_law_same" (defScope s__law_same) fa cdv A outer s H E) ⟨none, T⟩ (fun c d _ H => E c d H) (defBody s__law_same) (T__law_same sp__law_same) :=
  (dss_cons (ds_if (dw_or (db_is (de_v 1) de_non) (dw_or1 (db_is (de_v 0) de_non))).toB (dss_one (ds_ret (de_and (de_is (de_v 1) de_non) (de_one (de_is (de_v 0) de_non))))) dss_nil)
    (dss_cons (ds_if (dw_or (db_tru (de_isi .tuple Z.b_isinstance Z.b_tuple (by decide +kernel) (de_v 1))) (dw_or1 (db_tru (de_isi .list Z.b_isinstance Z.b_list (by decide +kernel) (de_v 1))))).toB (dss_cons (ds_if (dw_or (db_ne hr (de_isi .tuple Z.b_isinstance Z.b_tuple (by decide +kernel) (de_v 1)) (de_isi .tuple Z.b_isinstance Z.b_tuple (by decide +kernel) (de_v 0))) (dw_or1 (db_ne hr (de_isi .list Z.b_isinstance Z.b_list (by decide +kernel) (de_v 1)) (de_isi .list Z.b_isinstance Z.b_list (by decide +kernel) (de_v 0))))).toB (dss_one (ds_ret de_bl)) dss_nil)
    (dss_cons (ds_if (db_ne hr (de_len Z.b_len (de_v 0)) (de_len Z.b_len (de_v 1))) (dss_one (ds_ret de_bl)) dss_nil)
    (dss_cons (ds_for (L2.passes_of rfl) rfl (di_range1 Z.b_range (da_cons (de_len Z.b_len (de_v 1)) da_nil)) (dg_name (i := 2) sc__law_same.nd rfl (.inl rfl)) (dss_one (ds_if (db_not (db_tru (de_c c__law_same (L2N.takes_of rfl rfl rfl rfl) hr (da_cons (de_ix (de_v 0) (de_v 2) (fun _ _ => rfl)) (da_cons (de_ix (de_v 1) (de_v 2) (fun _ _ => rfl)) da_nil))))) (dss_one (ds_ret de_bl)) dss_nil)))
    (dss_one (ds_ret de_bl))))) dss_nil)
    (dss_cons (ds_if (db_ne hr (de_isi .bool Z.b_isinstance Z.b_bool (by decide +kernel) (de_v 1)) (de_isi .bool Z.b_isinstance Z.b_bool (by decide +kernel) (de_v 0))) (dss_one (ds_ret de_bl)) dss_nil)
    (dss_cons (ds_if (dw_or (db_ne hr (de_isi .int Z.b_isinstance Z.b_int (by decide +kernel) (de_v 1)) (de_isi .int Z.b_isinstance Z.b_int (by decide +kernel) (de_v 0))) (dw_or1 (db_ne hr (de_isi .str Z.b_isinstance Z.b_str (by decide +kernel) (de_v 1)) (de_isi .str Z.b_isinstance Z.b_str (by decide +kernel) (de_v 0))))).toB (dss_one (ds_ret de_bl)) dss_nil)
    (dss_one (ds_ret (de_eq hr (de_v 0) (de_v 1))))))))
theorem ok__law_same {P : Program} {w : World} {K : PySem.W.Frag} {mg : Str → Option Value} {base : Heap} {T : Addr → Prop} {k : Nat} {C_KiteError C_OutOfRange C_NotThere : Addr} {sp__law_same : PSp} (Z : Top K mg C_KiteError C_OutOfRange C_NotThere) (c__law_same : CallD P w K mg base T k "_law_same" p__law_same sp__law_same) {fa : Addr} {fd : FuncData} (F : Fun K "_law_same" "_law_same" s__law_same fa fd) (hm : mg "_law_same" = some (.ref fa)) (hb : Binds K fd p__law_same []) {sp : PSp} (len : ∀ ds q x, sp ds q x → ds.length = 2)
    (hsp : ∀ ds q x, sp ds q x → T__law_same sp__law_same ⟨fun _ => q (.d .non), fun r _ => q r, fun _ => False, fun _ => False, fun c _ => x c⟩ (startE N__law_same ds)) : CallD P w K mg base T (k + 1) "_law_same" p__law_same sp :=
  ⟨fa, fd, fn_ok F sc__law_same len (fun cdv A outer s H E hr => d__law_same Z c__law_same cdv A outer s H E hr) hsp, hm, F.kp, hb⟩
/-! _law_told -/
abbrev s__law_told : Stmt := topS 15
abbrev N__law_told : List Str := ["which", "n", "value", "e"]
abbrev p__law_told : List Str := ["which", "n", "value"]
theorem sc__law_told : FnScope N__law_told p__law_told (defScope s__law_told) := ⟨rfl, rfl, rfl, by decide +kernel, rfl, by decide +kernel, by decide +kernel⟩
def T__law_told (sp_cell_on_path : PSp) (sp_place_on_path : PSp) (wd : Addr → Option Str) : ST := (sTryW wd 3 (sRet (tIf' (tT (t2 (fEq) (tV 0) (tK (.int 0)))) (tCall' sp_cell_on_path (aCons (tV 1) (aCons (tV 2) aNil))) (tCall' sp_place_on_path (aCons (tV 1) (aCons (tV 2) aNil))))))
theorem d__law_told {P : Program} {w : World} {K : PySem.W.Frag} {mg : Str → Option Value} {base : Heap} {T : Addr → Prop} {k : Nat} {C_KiteError C_OutOfRange C_NotThere : Addr} {sp_cell_on_path : PSp} {sp_place_on_path : PSp} (Z : Top K mg C_KiteError C_OutOfRange C_NotThere) (c_cell_on_path : CallD P w K mg base T k "cell_on_path" p_cell_on_path sp_cell_on_path) (c_place_on_path : CallD P w K mg base T k "place_on_path" p_place_on_path sp_place_on_path) {wd : Addr → Option Str} (hw : Tell2 K C_KiteError C_OutOfRange C_NotThere ["other", "range", "none"] wd) {fa : Addr} (cdv : Value) (A : Around) (outer : List Env) (s : Shared) (H : Hp) (E : XK)
    (hr : Room k (A.deeper (envOfC "_law_told" (defScope s__law_told) s.heap.objs.size fa cdv))) :
    DSs (cxOf (L2N.CX P w) P w K mg base N__law_told "_law_told" (defScope s__law_told) fa cdv A outer s H E) ⟨none, T⟩ (fun c d _ H => E c d H) (defBody s__law_told) (T__law_told sp_cell_on_path sp_place_on_path wd) :=
  (dss_one (ds_tryE (wd := wd) (i := 3) rfl rfl sc__law_told.nd rfl rfl ⟨by rfl, by decide, .inl Z.x_KiteError.gC⟩ (L2N.takes_of rfl rfl rfl rfl) (fun W pn xe tk pw => (dss_one (ds_ret (de_if (db_eq hr (de_v 0) de_int) (de_c c_cell_on_path tk hr (da_cons (de_v 1) (da_cons (de_v 2) da_nil))) (de_c c_place_on_path tk hr (da_cons (de_v 1) (da_cons (de_v 2) da_nil))))))) hw.ex (fun a oe cls d pn hz hf => pe_tell2 hw hz hf rfl (.inl rfl) Z.x_OutOfRange.gC Z.x_NotThere.gC Z.b_isinstance Z.b_int)))
theorem ok__law_told {P : Program} {w : World} {K : PySem.W.Frag} {mg : Str → Option Value} {base : Heap} {T : Addr → Prop} {k : Nat} {C_KiteError C_OutOfRange C_NotThere : Addr} {sp_cell_on_path : PSp} {sp_place_on_path : PSp} (Z : Top K mg C_KiteError C_OutOfRange C_NotThere) (c_cell_on_path : CallD P w K mg base T k "cell_on_path" p_cell_on_path sp_cell_on_path) (c_place_on_path : CallD P w K mg base T k "place_on_path" p_place_on_path sp_place_on_path) {wd : Addr → Option Str} (hw : Tell2 K C_KiteError C_OutOfRange C_NotThere ["other", "range", "none"] wd) {fa : Addr} {fd : FuncData} (F : Fun K "_law_told" "_law_told" s__law_told fa fd) (hm : mg "_law_told" = some (.ref fa)) (hb : Binds K fd p__law_told []) {sp : PSp} (len : ∀ ds q x, sp ds q x → ds.length = 3)
    (hsp : ∀ ds q x, sp ds q x → T__law_told sp_cell_on_path sp_place_on_path wd ⟨fun _ => q (.d .non), fun r _ => q r, fun _ => False, fun _ => False, fun c _ => x c⟩ (startE N__law_told ds)) : CallD P w K mg base T (k + 1) "_law_told" p__law_told sp :=
  ⟨fa, fd, fn_ok F sc__law_told len (fun cdv A outer s H E hr => d__law_told Z c_cell_on_path c_place_on_path hw cdv A outer s H E hr) hsp, hm, F.kp, hb⟩
/-! _law_path -/
abbrev s__law_path : Stmt := topS 16
abbrev N__law_path : List Str := ["n", "cells", "side", "order", "below", "left", "right", "last", "x", "y"]
abbrev p__law_path : List Str := ["n"]
theorem sc__law_path : FnScope N__law_path p__law_path (defScope s__law_path) := ⟨rfl, rfl, rfl, by decide +kernel, rfl, by decide +kernel, by decide +kernel⟩
def T__law_path : ST := (sSeq (sAsg (tTup' (aCons (tLst' (aCons (tTup' (aCons (tK (.int 0)) (aCons (tK (.int 0)) aNil))) aNil)) (aCons (tK (.int 1)) aNil))) (gTupD 2 (gsCons (gVar 1) (gsCons (gVar 2) gsNil))))
    (sSeq (sFor (iR1 (aCons (tV 0) aNil)) (gVar 3) (sSeq (sSet 4 (tLc' (iSeqD (tV 1)) (gTupD 2 (gsCons (gVar 8) (gsCons (gVar 9) gsNil))) bYes (tTup' (aCons (tV 9) (aCons (tV 8) aNil))) [8, 9]))
    (sSeq (sSet 5 (tLc' (iSeqD (tV 1)) (gTupD 2 (gsCons (gVar 8) (gsCons (gVar 9) gsNil))) bYes (tTup' (aCons (tV 8) (aCons (t2 fAdd (tV 9) (tV 2)) aNil))) [8, 9]))
    (sSeq (sSet 6 (tLc' (iSeqD (tV 1)) (gTupD 2 (gsCons (gVar 8) (gsCons (gVar 9) gsNil))) bYes (tTup' (aCons (t2 fAdd (tV 8) (tV 2)) (aCons (t2 fAdd (tV 9) (tV 2)) aNil))) [8, 9]))
    (sSeq (sSet 7 (tLc' (iSeqD (tV 1)) (gTupD 2 (gsCons (gVar 8) (gsCons (gVar 9) gsNil))) bYes (tTup' (aCons (t2 fSub (t2 fSub (t2 fMul (tK (.int 2)) (tV 2)) (tK (.int 1))) (tV 9)) (aCons (t2 fSub (t2 fSub (tV 2) (tK (.int 1))) (tV 8)) aNil))) [8, 9]))
    (sAsg (tTup' (aCons (t2 fAdd (t2 fAdd (t2 fAdd (tV 4) (tV 5)) (tV 6)) (tV 7)) (aCons (t2 fMul (tK (.int 2)) (tV 2)) aNil))) (gTupD 2 (gsCons (gVar 1) (gsCons (gVar 2) gsNil)))))))))
    (sRet (tV 1))))
theorem d__law_path {P : Program} {w : World} {K : PySem.W.Frag} {mg : Str → Option Value} {base : Heap} {T : Addr → Prop} {k : Nat} {C_KiteError C_OutOfRange C_NotThere : Addr} (Z : Top K mg C_KiteError C_OutOfRange C_NotThere) {fa : Addr} (cdv : Value) (A : Around) (outer : List Env) (s : Shared) (H : Hp) (E : XK)
    (hr : Room k (A.deeper (envOfC "_law_path" (defScope s__law_path) s.heap.objs.size fa cdv))) :
    DSs (cxOf (L2N.CX P w) P w K mg base N__law_path "_law_path" (defScope s__law_path) fa cdv A outer s H E) ⟨none, T⟩ (fun c d _ H => E c d H) (defBody s__law_path) (T__law_path) :=
  (dss_cons (ds_asg (de_tup (da_cons (de_lst (da_cons (de_tup (da_cons de_int (da_cons de_int da_nil))) da_nil)) (da_cons de_int da_nil))) (dg_tup rfl (dgs_cons (dg_name (i := 1) sc__law_path.nd rfl (.inl rfl)) (dgs_cons (dg_name (i := 2) sc__law_path.nd rfl (.inr rfl)) dgs_nil))))
    (dss_cons (ds_for (L2.passes_of rfl) rfl (di_range1 Z.b_range (da_cons (de_v 0) da_nil)) (dg_name (i := 3) sc__law_path.nd rfl (.inl rfl)) (dss_cons (ds_setLc' (i := 4) rfl sc__law_path.nd rfl rfl (sw_true rfl rfl rfl (by decide +kernel)) (di_seq (de_v 1)) (blkOk_by (N := N__law_path) (sc := (defScope s__law_path)) (own := [("x", 8), ("y", 9)]) (by decide +kernel)) (fun _ _ _ _ _ => (dg_tup rfl (dgs_cons (dg_name (i := 8) sc__law_path.nd rfl (.inl rfl)) (dgs_cons (dg_name (i := 9) sc__law_path.nd rfl (.inl rfl)) dgs_nil)))) (fun _ _ _ _ _ => dts_nil) (fun _ _ _ _ _ => (de_tup (da_cons (de_v 9) (da_cons (de_v 8) da_nil)))) (by decide))
    (dss_cons (ds_setLc' (i := 5) rfl sc__law_path.nd rfl rfl (sw_true rfl rfl rfl (by decide +kernel)) (di_seq (de_v 1)) (blkOk_by (N := N__law_path) (sc := (defScope s__law_path)) (own := [("x", 8), ("y", 9)]) (by decide +kernel)) (fun _ _ _ _ _ => (dg_tup rfl (dgs_cons (dg_name (i := 8) sc__law_path.nd rfl (.inl rfl)) (dgs_cons (dg_name (i := 9) sc__law_path.nd rfl (.inl rfl)) dgs_nil)))) (fun _ _ _ _ _ => dts_nil) (fun _ _ _ _ _ => (de_tup (da_cons (de_v 8) (da_cons (de_add (de_v 9) (de_v 2)) da_nil)))) (by decide))
    (dss_cons (ds_setLc' (i := 6) rfl sc__law_path.nd rfl rfl (sw_true rfl rfl rfl (by decide +kernel)) (di_seq (de_v 1)) (blkOk_by (N := N__law_path) (sc := (defScope s__law_path)) (own := [("x", 8), ("y", 9)]) (by decide +kernel)) (fun _ _ _ _ _ => (dg_tup rfl (dgs_cons (dg_name (i := 8) sc__law_path.nd rfl (.inl rfl)) (dgs_cons (dg_name (i := 9) sc__law_path.nd rfl (.inl rfl)) dgs_nil)))) (fun _ _ _ _ _ => dts_nil) (fun _ _ _ _ _ => (de_tup (da_cons (de_add (de_v 8) (de_v 2)) (da_cons (de_add (de_v 9) (de_v 2)) da_nil)))) (by decide))
    (dss_cons (ds_setLc' (i := 7) rfl sc__law_path.nd rfl rfl (sw_true rfl rfl rfl (by decide +kernel)) (di_seq (de_v 1)) (blkOk_by (N := N__law_path) (sc := (defScope s__law_path)) (own := [("x", 8), ("y", 9)]) (by decide +kernel)) (fun _ _ _ _ _ => (dg_tup rfl (dgs_cons (dg_name (i := 8) sc__law_path.nd rfl (.inl rfl)) (dgs_cons (dg_name (i := 9) sc__law_path.nd rfl (.inl rfl)) dgs_nil)))) (fun _ _ _ _ _ => dts_nil) (fun _ _ _ _ _ => (de_tup (da_cons (de_sub (de_sub (de_mul de_int (de_v 2)) de_int) (de_v 9)) (da_cons (de_sub (de_sub (de_v 2) de_int) (de_v 8)) da_nil)))) (by decide))
    (dss_one (ds_asg (de_tup (da_cons (de_add (de_add (de_add (de_v 4) (de_v 5)) (de_v 6)) (de_v 7)) (da_cons (de_mul de_int (de_v 2)) da_nil))) (dg_tup rfl (dgs_cons (dg_name (i := 1) sc__law_path.nd rfl (.inl rfl)) (dgs_cons (dg_name (i := 2) sc__law_path.nd rfl (.inr rfl)) dgs_nil))))))))))
    (dss_one (ds_ret (de_v 1)))))
theorem ok__law_path {P : Program} {w : World} {K : PySem.W.Frag} {mg : Str → Option Value} {base : Heap} {T : Addr → Prop} {k : Nat} {C_KiteError C_OutOfRange C_NotThere : Addr} (Z : Top K mg C_KiteError C_OutOfRange C_NotThere) {fa : Addr} {fd : FuncData} (F : Fun K "_law_path" "_law_path" s__law_path fa fd) (hm : mg "_law_path" = some (.ref fa)) (hb : Binds K fd p__law_path []) {sp : PSp} (len : ∀ ds q x, sp ds q x → ds.length = 1)
    (hsp : ∀ ds q x, sp ds q x → T__law_path ⟨fun _ => q (.d .non), fun r _ => q r, fun _ => False, fun _ => False, fun c _ => x c⟩ (startE N__law_path ds)) : CallD P w K mg base T (k + 1) "_law_path" p__law_path sp :=
  ⟨fa, fd, fn_ok F sc__law_path len (fun cdv A outer s H E hr => d__law_path Z cdv A outer s H E hr) hsp, hm, F.kp, hb⟩
/-! law -/
abbrev s_law : Stmt := topS 17
abbrev N_law : List Str := ["script", "draws", "n", "cells", "side", "cell", "number", "k", "far", "great", "one", "other", "block", "begin", "spot", "few", "bad", "gone", "turn", "which", "a", "b"]
abbrev p_law : List Str := ["script"]
theorem sc_law : FnScope N_law p_law (defScope s_law) := ⟨rfl, rfl, rfl, by decide +kernel, rfl, by decide +kernel, by decide +kernel⟩
def T_law (sp__law_draws : PSp) (sp__law_take : PSpIO) (sp__law_path : PSp) (sp__law_same : PSp) (sp__law_told : PSp) : ST := (sSeq (sSet 1 (tCall' sp__law_draws (aCons (tV 0) aNil)))
    (sSeq (sSet 2 (tCallIO sp__law_take (aCons (tV 1) (aCons (t2 fIx (tLst' (aCons (tK (.int 5)) (aCons (tK (.int 6)) aNil))) (tC' fInt1 (aCons (t2 (fEq) (tCallIO sp__law_take (aCons (tV 1) (aCons (tK (.int 5)) aNil))) (tK (.int 0))) aNil))) aNil))))
    (sSeq (sAsg (tTup' (aCons (tCall' sp__law_path (aCons (tV 2) aNil)) (aCons (t2 fShl (tK (.int 1)) (tV 2)) aNil))) (gTupD 2 (gsCons (gVar 3) (gsCons (gVar 4) gsNil))))
    (sSeq (sIf (bOr (tT (t2 (fNe) (tC' fLenD (aCons (tC' fDictT (aCons (tLc' (iSeqD (tV 3)) (gVar 5) bYes (tTup' (aCons (tV 5) (aCons (tK (.int 1)) aNil))) [5]) aNil)) aNil)) (t2 fMul (tV 4) (tV 4)))) (bOr (tT (t2 (fNe) (t2 fIx (tV 3) (tK (.int 0))) (tTup' (aCons (tK (.int 0)) (aCons (tK (.int 0)) aNil))))) (tT (t2 (fNe) (t2 fIx (tV 3) (t1 fNeg (tK (.int 1)))) (tTup' (aCons (t2 fSub (tV 4) (tK (.int 1))) (aCons (tK (.int 0)) aNil))))))) (sRet (tK (.bl false))) sNext)
    (sSeq (sFor (iSeqD (t2 fAdd (tLst' (aCons (tK (.int 0)) (aCons (t2 fSub (tC' fLen (aCons (tV 3) aNil)) (tK (.int 1))) aNil))) (tLc' (iR1 (aCons (tK (.int 6)) aNil)) (gVar 18) bYes (tCallIO sp__law_take (aCons (tV 1) (aCons (tC' fLen (aCons (tV 3) aNil)) aNil))) [18]))) (gVar 6) (sIf (bNot (tTr (tCall' sp__law_same (aCons (tLst' (aCons (tCall' sp__law_told (aCons (tK (.int 0)) (aCons (tV 2) (aCons (tV 6) aNil)))) (aCons (tCall' sp__law_told (aCons (tK (.int 1)) (aCons (tV 2) (aCons (t2 fIx (tV 3) (tV 6)) aNil)))) aNil))) (aCons (tLst' (aCons (t2 fIx (tV 3) (tV 6)) (aCons (tV 6) aNil))) aNil))))) (sRet (tK (.bl false))) sNext))
    (sSeq (sIf (tT (t2 (fNe) (tLc' (iR2 (aCons (tK (.int 1)) (aCons (tC' fLen (aCons (tV 3) aNil)) aNil))) (gVar 7) (tT (t2 (fNe) (t2 fAdd (tC' fAbs (aCons (t2 fSub (t2 fIx (t2 fIx (tV 3) (tV 7)) (tK (.int 0))) (t2 fIx (t2 fIx (tV 3) (t2 fSub (tV 7) (tK (.int 1)))) (tK (.int 0)))) aNil)) (tC' fAbs (aCons (t2 fSub (t2 fIx (t2 fIx (tV 3) (tV 7)) (tK (.int 1))) (t2 fIx (t2 fIx (tV 3) (t2 fSub (tV 7) (tK (.int 1)))) (tK (.int 1)))) aNil))) (tK (.int 1)))) (tV 7) [7]) (tLst' aNil))) (sRet (tK (.bl false))) sNext)
    (sSeq (sSet 8 (t2 fIx (tLst' (aCons (t2 fAdd (tK (.int 6)) (tCallIO sp__law_take (aCons (tV 1) (aCons (tK (.int 35)) aNil)))) (aCons (tK (.int 40)) aNil))) (tC' fInt1 (aCons (t2 (fEq) (tCallIO sp__law_take (aCons (tV 1) (aCons (tK (.int 4)) aNil))) (tK (.int 0))) aNil))))
    (sSeq (sSet 9 (t2 fShl (tK (.int 1)) (tV 8)))
    (sSeq (sSet 6 (t2 fMod (tC' fInt1 (aCons (t2 fAdd (t2 fMul (tCallIO sp__law_take (aCons (tV 1) (aCons (t2 fPow (tK (.int 10)) (tK (.int 12))) aNil))) (t2 fPow (tK (.int 10)) (tK (.int 13)))) (tCallIO sp__law_take (aCons (tV 1) (aCons (t2 fPow (tK (.int 10)) (tK (.int 12))) aNil)))) aNil)) (t2 fSub (t2 fMul (tV 9) (tV 9)) (tK (.int 1)))))
    (sSeq (sPar 10 11 (tCall' sp__law_told (aCons (tK (.int 0)) (aCons (tV 8) (aCons (tV 6) aNil)))) (tCall' sp__law_told (aCons (tK (.int 0)) (aCons (tV 8) (aCons (t2 fAdd (tV 6) (tK (.int 1))) aNil)))))
    (sSeq (sIf (bOr (bNot (tTr (t1 (fIsi .tuple) (tV 10)))) (bOr (tT (t2 (fNe) (tC' fLen (aCons (tV 10) aNil)) (tK (.int 2)))) (bOr (bNot (tT (tCh3 fLe fLe fLt (tK (.int 0)) (tC' fMinA (aCons (tV 10) aNil)) (tC' fMaxA (aCons (tV 10) aNil)) (tV 9)))) (tT (t2 (fNe) (t2 fAdd (tC' fAbs (aCons (t2 fSub (t2 fIx (tV 10) (tK (.int 0))) (t2 fIx (tV 11) (tK (.int 0)))) aNil)) (tC' fAbs (aCons (t2 fSub (t2 fIx (tV 10) (tK (.int 1))) (t2 fIx (tV 11) (tK (.int 1)))) aNil))) (tK (.int 1))))))) (sRet (tK (.bl false))) sNext)
    (sSeq (sIf (bOr (bNot (tTr (tCall' sp__law_same (aCons (tLst' (aCons (tCall' sp__law_told (aCons (tK (.int 1)) (aCons (tV 8) (aCons (tV 10) aNil)))) (aCons (tCall' sp__law_told (aCons (tK (.int 1)) (aCons (tV 8) (aCons (tV 11) aNil)))) aNil))) (aCons (tLst' (aCons (tV 6) (aCons (t2 fAdd (tV 6) (tK (.int 1))) aNil))) aNil))))) (bOr (tT (t2 (fNe) (tCall' sp__law_told (aCons (tK (.int 0)) (aCons (tV 8) (aCons (t2 fSub (t2 fMul (tV 9) (tV 9)) (tK (.int 1))) aNil)))) (tTup' (aCons (t2 fSub (tV 9) (tK (.int 1))) (aCons (tK (.int 0)) aNil))))) (tT (t2 (fNe) (tCall' sp__law_told (aCons (tK (.int 0)) (aCons (tV 8) (aCons (tK (.int 0)) aNil)))) (tTup' (aCons (tK (.int 0)) (aCons (tK (.int 0)) aNil))))))) (sRet (tK (.bl false))) sNext)
    (sSeq (sSet 5 (tTup' (aCons (t2 fMod (tC' fInt1 (aCons (tCallIO sp__law_take (aCons (tV 1) (aCons (t2 fPow (tK (.int 10)) (tK (.int 12))) aNil))) aNil)) (tV 9)) (aCons (t2 fMod (tC' fInt1 (aCons (t2 fMul (tCallIO sp__law_take (aCons (tV 1) (aCons (t2 fPow (tK (.int 10)) (tK (.int 12))) aNil))) (tK (.int 7))) aNil)) (tV 9)) aNil))))
    (sSeq (sIf (tT (t2 (fNe) (tCall' sp__law_told (aCons (tK (.int 0)) (aCons (tV 8) (aCons (tCall' sp__law_told (aCons (tK (.int 1)) (aCons (tV 8) (aCons (tV 5) aNil)))) aNil)))) (tV 5))) (sRet (tK (.bl false))) sNext)
    (sSeq (sSet 7 (tCallIO sp__law_take (aCons (tV 1) (aCons (t2 fAdd (tV 8) (tK (.int 1))) aNil))))
    (sSeq (sSet 12 (t2 fMul (t2 fShl (tK (.int 1)) (tV 7)) (t2 fShl (tK (.int 1)) (tV 7))))
    (sSeq (sSet 13 (t2 fMul (t2 fDiv (tV 6) (tV 12)) (tV 12)))
    (sSeq (sSet 14 (tCall' sp__law_told (aCons (tK (.int 0)) (aCons (tV 8) (aCons (t2 fAdd (tV 13) (tCallIO sp__law_take (aCons (tV 1) (aCons (tV 12) aNil)))) aNil)))))
    (sSeq (sIf (tT (t2 (fNe) (tTup' (aCons (t2 fShr (t2 fIx (tV 14) (tK (.int 0))) (tV 7)) (aCons (t2 fShr (t2 fIx (tV 14) (tK (.int 1))) (tV 7)) aNil))) (tTup' (aCons (t2 fShr (t2 fIx (tV 10) (tK (.int 0))) (tV 7)) (aCons (t2 fShr (t2 fIx (tV 10) (tK (.int 1))) (tV 7)) aNil))))) (sRet (tK (.bl false))) sNext)
    (sSeq (sSet 15 (tC' fMin2 (aCons (tV 2) (aCons (tK (.int 4)) aNil))))
    (sSeq (sIf (bAnd (tT (t2 (fGt) (tV 15) (tK (.int 0)))) (tT (t2 (fNe) (tLc' (iR1 (aCons (tK (.int 4)) aNil)) (gVar 10) bYes (tCall' sp__law_told (aCons (tK (.int 0)) (aCons (t2 fAdd (tV 15) (tK (.int 2))) (aCons (tV 10) aNil)))) [10]) (tLc' (iR1 (aCons (tK (.int 4)) aNil)) (gVar 10) bYes (t2 fIx (tCall' sp__law_path (aCons (t2 fAdd (tV 15) (tK (.int 2))) aNil)) (tV 10)) [10])))) (sRet (tK (.bl false))) sNext)
    (sSeq (sSet 16 (tLst' (aCons (tTup' (aCons (tK (.int 0)) (aCons (t1 fNeg (tK (.int 1))) (aCons (tK (.int 0)) aNil)))) (aCons (tTup' (aCons (tK (.int 0)) (aCons (tK (.int 41)) (aCons (tK (.int 0)) aNil)))) (aCons (tTup' (aCons (tK (.int 1)) (aCons (t1 fNeg (tK (.int 1))) (aCons (tTup' (aCons (tK (.int 0)) (aCons (tK (.int 0)) aNil))) aNil)))) (aCons (tTup' (aCons (tK (.int 1)) (aCons (tK (.int 41)) (aCons (tTup' (aCons (tK (.int 0)) (aCons (tK (.int 0)) aNil))) aNil)))) aNil))))))
    (sSeq (sSet 17 (tLst' (aCons (tTup' (aCons (tK (.int 0)) (aCons (tV 2) (aCons (t2 fMul (tV 4) (tV 4)) aNil)))) (aCons (tTup' (aCons (tK (.int 0)) (aCons (tV 2) (aCons (t1 fNeg (tK (.int 1))) aNil)))) (aCons (tTup' (aCons (tK (.int 1)) (aCons (tV 2) (aCons (tTup' (aCons (tV 4) (aCons (tK (.int 0)) aNil))) aNil)))) (aCons (tTup' (aCons (tK (.int 1)) (aCons (tV 2) (aCons (tTup' (aCons (tK (.int 0)) (aCons (tV 4) aNil))) aNil)))) (aCons (tTup' (aCons (tK (.int 1)) (aCons (tV 2) (aCons (tTup' (aCons (t1 fNeg (tK (.int 1))) (aCons (tK (.int 0)) aNil))) aNil)))) (aCons (tTup' (aCons (tK (.int 1)) (aCons (tV 2) (aCons (tTup' (aCons (tK (.int 0)) (aCons (t1 fNeg (tK (.int 1))) aNil))) aNil)))) aNil))))))))
    (sRet (tAnd' (t2 (fEq) (tLc' (iSeqD (tV 16)) (gTupD 3 (gsCons (gVar 19) (gsCons (gVar 20) (gsCons (gVar 21) gsNil)))) bYes (tCall' sp__law_told (aCons (tV 19) (aCons (tV 20) (aCons (tV 21) aNil)))) [19, 20, 21]) (t2 fMul (tLst' (aCons (tK (.str "range")) aNil)) (tK (.int 4)))) (t2 (fEq) (tLc' (iSeqD (tV 17)) (gTupD 3 (gsCons (gVar 19) (gsCons (gVar 20) (gsCons (gVar 21) gsNil)))) bYes (tCall' sp__law_told (aCons (tV 19) (aCons (tV 20) (aCons (tV 21) aNil)))) [19, 20, 21]) (t2 fMul (tLst' (aCons (tK (.str "none")) aNil)) (tK (.int 6)))))))))))))))))))))))))))))
theorem d_law {P : Program} {w : World} {K : PySem.W.Frag} {mg : Str → Option Value} {base : Heap} {T : Addr → Prop} {k : Nat} {C_KiteError C_OutOfRange C_NotThere : Addr} {sp__law_draws : PSp} {sp__law_take : PSpIO} {sp__law_path : PSp} {sp__law_same : PSp} {sp__law_told : PSp} (Z : Top K mg C_KiteError C_OutOfRange C_NotThere) (c__law_draws : CallD P w K mg base T k "_law_draws" p__law_draws sp__law_draws) (c__law_take : CallIO P w K mg base T k "_law_take" p__law_take sp__law_take) (c__law_path : CallD P w K mg base T k "_law_path" p__law_path sp__law_path) (c__law_same : CallD P w K mg base T k "_law_same" p__law_same sp__law_same) (c__law_told : CallD P w K mg base T k "_law_told" p__law_told sp__law_told) {fa : Addr} (cdv : Value) (A : Around) (outer : List Env) (s : Shared) (H : Hp) (E : XK)
    (hr : Room k (A.deeper (envOfC "law" (defScope s_law) s.heap.objs.size fa cdv))) :
    DSs (cxOf (L2N.CX P w) P w K mg base N_law "law" (defScope s_law) fa cdv A outer s H E) ⟨none, T⟩ (fun c d _ H => E c d H) (defBody s_law) (T_law sp__law_draws sp__law_take sp__law_path sp__law_same sp__law_told) :=
  (dss_cons (ds_set (i := 1) sc_law.nd rfl (.inr rfl) (de_c c__law_draws (L2N.takes_of rfl rfl rfl rfl) hr (da_cons (de_v 0) da_nil)))
    (dss_cons (ds_set (i := 2) sc_law.nd rfl (.inl rfl) (de_cIO c__law_take (L2N.takes_of rfl rfl rfl rfl) hr (da_cons (de_v 1) (da_cons (de_ix (de_lst (da_cons de_int (da_cons de_int da_nil))) (de_int1 Z.b_int (de_eq hr (de_cIO c__law_take (L2N.takes_of rfl rfl rfl rfl) hr (da_cons (de_v 1) (da_cons de_int da_nil))) de_int)) (fun _ _ => rfl)) da_nil))))
    (dss_cons (ds_asg (de_tup (da_cons (de_c c__law_path (L2N.takes_of rfl rfl rfl rfl) hr (da_cons (de_v 2) da_nil)) (da_cons (de_shl de_int (de_v 2)) da_nil))) (dg_tup rfl (dgs_cons (dg_name (i := 3) sc_law.nd rfl (.inr rfl)) (dgs_cons (dg_name (i := 4) sc_law.nd rfl (.inl rfl)) dgs_nil))))
    (dss_cons (ds_if (dw_or (db_ne hr (de_lenD Z.b_len (de_dictT hr Z.b_dict (de_lc' rfl sc_law.nd (di_seq (de_v 3)) (blkOk_by (N := N_law) (sc := (defScope s_law)) (own := [("cell", 5)]) (by decide +kernel)) (fun _ _ _ _ _ => (dg_name (i := 5) sc_law.nd rfl (.inl rfl))) (fun _ _ _ _ _ => dts_nil) (fun _ _ _ _ _ => (de_tup (da_cons (de_v 5) (da_cons de_int da_nil)))) (by decide)))) (de_mul (de_v 4) (de_v 4))) (dw_or (db_ne hr (de_ix (de_v 3) de_int (fun _ _ => rfl)) (de_tup (da_cons de_int (da_cons de_int da_nil)))) (dw_or1 (db_ne hr (de_ix (de_v 3) (de_neg de_int) (fun _ _ => rfl)) (de_tup (da_cons (de_sub (de_v 4) de_int) (da_cons de_int da_nil))))))).toB (dss_one (ds_ret de_bl)) dss_nil)
    (dss_cons (ds_for (L2.passes_of rfl) rfl (di_seq (de_add (de_lst (da_cons de_int (da_cons (de_sub (de_len Z.b_len (de_v 3)) de_int) da_nil))) (de_lc' rfl sc_law.nd (di_range1 Z.b_range (da_cons de_int da_nil)) (blkOk_by (N := N_law) (sc := (defScope s_law)) (own := [("turn", 18)]) (by decide +kernel)) (fun _ _ _ _ _ => (dg_name (i := 18) sc_law.nd rfl (.inl rfl))) (fun _ _ _ _ _ => dts_nil) (fun _ _ _ _ _ => (de_cIO c__law_take (takesNo rfl) hr (da_cons (de_v 1) (da_cons (de_len Z.b_len (de_v 3)) da_nil)))) (by decide)))) (dg_name (i := 6) sc_law.nd rfl (.inl rfl)) (dss_one (ds_if (db_not (db_tru (de_c c__law_same (L2N.takes_of rfl rfl rfl rfl) hr (da_cons (de_lst (da_cons (de_c c__law_told (L2N.takes_of rfl rfl rfl rfl) hr (da_cons de_int (da_cons (de_v 2) (da_cons (de_v 6) da_nil)))) (da_cons (de_c c__law_told (L2N.takes_of rfl rfl rfl rfl) hr (da_cons de_int (da_cons (de_v 2) (da_cons (de_ix (de_v 3) (de_v 6) (fun _ _ => rfl)) da_nil)))) da_nil))) (da_cons (de_lst (da_cons (de_ix (de_v 3) (de_v 6) (fun _ _ => rfl)) (da_cons (de_v 6) da_nil))) da_nil))))) (dss_one (ds_ret de_bl)) dss_nil)))
    (dss_cons (ds_if (db_ne hr (de_lc' rfl sc_law.nd (di_range2 Z.b_range (da_cons de_int (da_cons (de_len Z.b_len (de_v 3)) da_nil))) (blkOk_by (N := N_law) (sc := (defScope s_law)) (own := [("k", 7)]) (by decide +kernel)) (fun _ _ _ _ _ => (dg_name (i := 7) sc_law.nd rfl (.inl rfl))) (fun _ _ _ _ _ => (dts_one (db_ne hr (de_add (de_abs Z.b_abs (de_sub (de_ix (de_ix (de_v 3) (de_v 7) (fun _ _ => rfl)) de_int (fun _ _ => rfl)) (de_ix (de_ix (de_v 3) (de_sub (de_v 7) de_int) (fun _ _ => rfl)) de_int (fun _ _ => rfl)))) (de_abs Z.b_abs (de_sub (de_ix (de_ix (de_v 3) (de_v 7) (fun _ _ => rfl)) de_int (fun _ _ => rfl)) (de_ix (de_ix (de_v 3) (de_sub (de_v 7) de_int) (fun _ _ => rfl)) de_int (fun _ _ => rfl))))) de_int))) (fun _ _ _ _ _ => (de_v 7)) (by decide)) (de_lst da_nil)) (dss_one (ds_ret de_bl)) dss_nil)
    (dss_cons (ds_set (i := 8) sc_law.nd rfl (.inl rfl) (de_ix (de_lst (da_cons (de_add de_int (de_cIO c__law_take (L2N.takes_of rfl rfl rfl rfl) hr (da_cons (de_v 1) (da_cons de_int da_nil)))) (da_cons de_int da_nil))) (de_int1 Z.b_int (de_eq hr (de_cIO c__law_take (L2N.takes_of rfl rfl rfl rfl) hr (da_cons (de_v 1) (da_cons de_int da_nil))) de_int)) (fun _ _ => rfl)))
    (dss_cons (ds_set (i := 9) sc_law.nd rfl (.inl rfl) (de_shl de_int (de_v 8)))
    (dss_cons (ds_set (i := 6) sc_law.nd rfl (.inl rfl) (de_mod (de_int1 Z.b_int (de_add (de_mul (de_cIO c__law_take (L2N.takes_of rfl rfl rfl rfl) hr (da_cons (de_v 1) (da_cons (de_pow de_int de_int) da_nil))) (de_pow de_int de_int)) (de_cIO c__law_take (L2N.takes_of rfl rfl rfl rfl) hr (da_cons (de_v 1) (da_cons (de_pow de_int de_int) da_nil))))) (de_sub (de_mul (de_v 9) (de_v 9)) de_int)))
    (dss_cons (ds_par (i := 10) (j := 11) rfl sc_law.nd rfl rfl (by decide) rfl rfl (de_c c__law_told (L2N.takes_of rfl rfl rfl rfl) hr (da_cons de_int (da_cons (de_v 8) (da_cons (de_v 6) da_nil)))) (de_c c__law_told (L2N.takes_of rfl rfl rfl rfl) hr (da_cons de_int (da_cons (de_v 8) (da_cons (de_add (de_v 6) de_int) da_nil)))) (by rfl))
    (dss_cons (ds_if (dw_or (db_not (db_tru (de_isi .tuple Z.b_isinstance Z.b_tuple (by decide +kernel) (de_v 10)))) (dw_or (db_ne hr (de_len Z.b_len (de_v 10)) de_int) (dw_or (db_not (db_chain3 op_le le_ok op_le le_ok op_lt lt_ok de_int (de_minA rfl Z.b_min (de_v 10)) (de_maxA rfl Z.b_max (de_v 10)) (de_v 9))) (dw_or1 (db_ne hr (de_add (de_abs Z.b_abs (de_sub (de_ix (de_v 10) de_int (fun _ _ => rfl)) (de_ix (de_v 11) de_int (fun _ _ => rfl)))) (de_abs Z.b_abs (de_sub (de_ix (de_v 10) de_int (fun _ _ => rfl)) (de_ix (de_v 11) de_int (fun _ _ => rfl))))) de_int))))).toB (dss_one (ds_ret de_bl)) dss_nil)
    (dss_cons (ds_if (dw_or (db_not (db_tru (de_c c__law_same (L2N.takes_of rfl rfl rfl rfl) hr (da_cons (de_lst (da_cons (de_c c__law_told (L2N.takes_of rfl rfl rfl rfl) hr (da_cons de_int (da_cons (de_v 8) (da_cons (de_v 10) da_nil)))) (da_cons (de_c c__law_told (L2N.takes_of rfl rfl rfl rfl) hr (da_cons de_int (da_cons (de_v 8) (da_cons (de_v 11) da_nil)))) da_nil))) (da_cons (de_lst (da_cons (de_v 6) (da_cons (de_add (de_v 6) de_int) da_nil))) da_nil))))) (dw_or (db_ne hr (de_c c__law_told (L2N.takes_of rfl rfl rfl rfl) hr (da_cons de_int (da_cons (de_v 8) (da_cons (de_sub (de_mul (de_v 9) (de_v 9)) de_int) da_nil)))) (de_tup (da_cons (de_sub (de_v 9) de_int) (da_cons de_int da_nil)))) (dw_or1 (db_ne hr (de_c c__law_told (L2N.takes_of rfl rfl rfl rfl) hr (da_cons de_int (da_cons (de_v 8) (da_cons de_int da_nil)))) (de_tup (da_cons de_int (da_cons de_int da_nil))))))).toB (dss_one (ds_ret de_bl)) dss_nil)
    (dss_cons (ds_set (i := 5) sc_law.nd rfl (.inl rfl) (de_tup (da_cons (de_mod (de_int1 Z.b_int (de_cIO c__law_take (L2N.takes_of rfl rfl rfl rfl) hr (da_cons (de_v 1) (da_cons (de_pow de_int de_int) da_nil)))) (de_v 9)) (da_cons (de_mod (de_int1 Z.b_int (de_mul (de_cIO c__law_take (L2N.takes_of rfl rfl rfl rfl) hr (da_cons (de_v 1) (da_cons (de_pow de_int de_int) da_nil))) de_int)) (de_v 9)) da_nil))))
    (dss_cons (ds_if (db_ne hr (de_c c__law_told (L2N.takes_of rfl rfl rfl rfl) hr (da_cons de_int (da_cons (de_v 8) (da_cons (de_c c__law_told (L2N.takes_of rfl rfl rfl rfl) hr (da_cons de_int (da_cons (de_v 8) (da_cons (de_v 5) da_nil)))) da_nil)))) (de_v 5)) (dss_one (ds_ret de_bl)) dss_nil)
    (dss_cons (ds_set (i := 7) sc_law.nd rfl (.inl rfl) (de_cIO c__law_take (L2N.takes_of rfl rfl rfl rfl) hr (da_cons (de_v 1) (da_cons (de_add (de_v 8) de_int) da_nil))))
    (dss_cons (ds_set (i := 12) sc_law.nd rfl (.inl rfl) (de_mul (de_shl de_int (de_v 7)) (de_shl de_int (de_v 7))))
    (dss_cons (ds_set (i := 13) sc_law.nd rfl (.inl rfl) (de_mul (de_div (de_v 6) (de_v 12)) (de_v 12)))
    (dss_cons (ds_set (i := 14) sc_law.nd rfl (.inl rfl) (de_c c__law_told (L2N.takes_of rfl rfl rfl rfl) hr (da_cons de_int (da_cons (de_v 8) (da_cons (de_add (de_v 13) (de_cIO c__law_take (L2N.takes_of rfl rfl rfl rfl) hr (da_cons (de_v 1) (da_cons (de_v 12) da_nil)))) da_nil)))))
    (dss_cons (ds_if (db_ne hr (de_tup (da_cons (de_shr (de_ix (de_v 14) de_int (fun _ _ => rfl)) (de_v 7)) (da_cons (de_shr (de_ix (de_v 14) de_int (fun _ _ => rfl)) (de_v 7)) da_nil))) (de_tup (da_cons (de_shr (de_ix (de_v 10) de_int (fun _ _ => rfl)) (de_v 7)) (da_cons (de_shr (de_ix (de_v 10) de_int (fun _ _ => rfl)) (de_v 7)) da_nil)))) (dss_one (ds_ret de_bl)) dss_nil)
    (dss_cons (ds_set (i := 15) sc_law.nd rfl (.inr rfl) (de_min2 Z.b_min rfl (de_v 2) de_int))
    (dss_cons (ds_if (dw_and (db_gt (de_v 15) de_int) (dw_and1 (db_ne hr (de_lc' rfl sc_law.nd (di_range1 Z.b_range (da_cons de_int da_nil)) (blkOk_by (N := N_law) (sc := (defScope s_law)) (own := [("one", 10)]) (by decide +kernel)) (fun _ _ _ _ _ => (dg_name (i := 10) sc_law.nd rfl (.inl rfl))) (fun _ _ _ _ _ => dts_nil) (fun _ _ _ _ _ => (de_c c__law_told (takesNo rfl) hr (da_cons de_int (da_cons (de_add (de_v 15) de_int) (da_cons (de_v 10) da_nil))))) (by decide)) (de_lc' rfl sc_law.nd (di_range1 Z.b_range (da_cons de_int da_nil)) (blkOk_by (N := N_law) (sc := (defScope s_law)) (own := [("one", 10)]) (by decide +kernel)) (fun _ _ _ _ _ => (dg_name (i := 10) sc_law.nd rfl (.inl rfl))) (fun _ _ _ _ _ => dts_nil) (fun _ _ _ _ _ => (de_ix (de_c c__law_path (takesNo rfl) hr (da_cons (de_add (de_v 15) de_int) da_nil)) (de_v 10) (fun _ _ => rfl))) (by decide))))).toB (dss_one (ds_ret de_bl)) dss_nil)
    (dss_cons (ds_set (i := 16) sc_law.nd rfl (.inl rfl) (de_lst (da_cons (de_tup (da_cons de_int (da_cons (de_neg de_int) (da_cons de_int da_nil)))) (da_cons (de_tup (da_cons de_int (da_cons de_int (da_cons de_int da_nil)))) (da_cons (de_tup (da_cons de_int (da_cons (de_neg de_int) (da_cons (de_tup (da_cons de_int (da_cons de_int da_nil))) da_nil)))) (da_cons (de_tup (da_cons de_int (da_cons de_int (da_cons (de_tup (da_cons de_int (da_cons de_int da_nil))) da_nil)))) da_nil))))))
    (dss_cons (ds_set (i := 17) sc_law.nd rfl (.inl rfl) (de_lst (da_cons (de_tup (da_cons de_int (da_cons (de_v 2) (da_cons (de_mul (de_v 4) (de_v 4)) da_nil)))) (da_cons (de_tup (da_cons de_int (da_cons (de_v 2) (da_cons (de_neg de_int) da_nil)))) (da_cons (de_tup (da_cons de_int (da_cons (de_v 2) (da_cons (de_tup (da_cons (de_v 4) (da_cons de_int da_nil))) da_nil)))) (da_cons (de_tup (da_cons de_int (da_cons (de_v 2) (da_cons (de_tup (da_cons de_int (da_cons (de_v 4) da_nil))) da_nil)))) (da_cons (de_tup (da_cons de_int (da_cons (de_v 2) (da_cons (de_tup (da_cons (de_neg de_int) (da_cons de_int da_nil))) da_nil)))) (da_cons (de_tup (da_cons de_int (da_cons (de_v 2) (da_cons (de_tup (da_cons de_int (da_cons (de_neg de_int) da_nil))) da_nil)))) da_nil))))))))
    (dss_one (ds_ret (de_and (de_eq hr (de_lc' rfl sc_law.nd (di_seq (de_v 16)) (blkOk_by (N := N_law) (sc := (defScope s_law)) (own := [("which", 19), ("a", 20), ("b", 21)]) (by decide +kernel)) (fun _ _ _ _ _ => (dg_tup rfl (dgs_cons (dg_name (i := 19) sc_law.nd rfl (.inl rfl)) (dgs_cons (dg_name (i := 20) sc_law.nd rfl (.inl rfl)) (dgs_cons (dg_name (i := 21) sc_law.nd rfl (.inl rfl)) dgs_nil))))) (fun _ _ _ _ _ => dts_nil) (fun _ _ _ _ _ => (de_c c__law_told (takesNo rfl) hr (da_cons (de_v 19) (da_cons (de_v 20) (da_cons (de_v 21) da_nil))))) (by decide)) (de_mul (de_lst (da_cons de_str da_nil)) de_int)) (de_one (de_eq hr (de_lc' rfl sc_law.nd (di_seq (de_v 17)) (blkOk_by (N := N_law) (sc := (defScope s_law)) (own := [("which", 19), ("a", 20), ("b", 21)]) (by decide +kernel)) (fun _ _ _ _ _ => (dg_tup rfl (dgs_cons (dg_name (i := 19) sc_law.nd rfl (.inl rfl)) (dgs_cons (dg_name (i := 20) sc_law.nd rfl (.inl rfl)) (dgs_cons (dg_name (i := 21) sc_law.nd rfl (.inl rfl)) dgs_nil))))) (fun _ _ _ _ _ => dts_nil) (fun _ _ _ _ _ => (de_c c__law_told (takesNo rfl) hr (da_cons (de_v 19) (da_cons (de_v 20) (da_cons (de_v 21) da_nil))))) (by decide)) (de_mul (de_lst (da_cons de_str da_nil)) de_int)))))))))))))))))))))))))))))
theorem ok_law {P : Program} {w : World} {K : PySem.W.Frag} {mg : Str → Option Value} {base : Heap} {T : Addr → Prop} {k : Nat} {C_KiteError C_OutOfRange C_NotThere : Addr} {sp__law_draws : PSp} {sp__law_take : PSpIO} {sp__law_path : PSp} {sp__law_same : PSp} {sp__law_told : PSp} (Z : Top K mg C_KiteError C_OutOfRange C_NotThere) (c__law_draws : CallD P w K mg base T k "_law_draws" p__law_draws sp__law_draws) (c__law_take : CallIO P w K mg base T k "_law_take" p__law_take sp__law_take) (c__law_path : CallD P w K mg base T k "_law_path" p__law_path sp__law_path) (c__law_same : CallD P w K mg base T k "_law_same" p__law_same sp__law_same) (c__law_told : CallD P w K mg base T k "_law_told" p__law_told sp__law_told) {fa : Addr} {fd : FuncData} (F : Fun K "law" "law" s_law fa fd) (hm : mg "law" = some (.ref fa)) (hb : Binds K fd p_law []) {sp : PSp} (len : ∀ ds q x, sp ds q x → ds.length = 1)
    (hsp : ∀ ds q x, sp ds q x → T_law sp__law_draws sp__law_take sp__law_path sp__law_same sp__law_told ⟨fun _ => q (.d .non), fun r _ => q r, fun _ => False, fun _ => False, fun c _ => x c⟩ (startE N_law ds)) : CallD P w K mg base T (k + 1) "law" p_law sp :=
  ⟨fa, fd, fn_ok F sc_law len (fun cdv A outer s H E hr => d_law Z c__law_draws c__law_take c__law_path c__law_same c__law_told cdv A outer s H E hr) hsp, hm, F.kp, hb⟩
end K91

set_option Elab.async false
set_option linter.all false
set_option maxRecDepth 100000
set_option maxHeartbeats 4000000
namespace K91
open PySem PySem.Spec PyProof.Rows L2 DL LW
abbrev cD (c : Nat × Nat) : D := .tup [.int c.1, .int c.2]
section
variable {C_OutOfRange C_NotThere : Addr}
def InO (n : Int) : Prop := 0 ≤ n ∧ n ≤ 40
def sp_see (C : Addr) : PSp := fun ds q x => ∃ n : Int, ds = [.int n] ∧ (InO n → q (.d .non)) ∧ (¬ InO n → x C)
theorem see_ok (ds q x) (h : sp_see C_OutOfRange ds q x) : T_see_order sp_is_number C_OutOfRange (SEr q x) (startE N_see_order ds) := by
  obtain ⟨n, rfl, h1, h2⟩ := h
  unfold T_see_order
  walk_at "dl"
  refine ⟨_, _, _, rfl, rfl, ?_⟩
  by_cases hn : InO n
  · rw [numB_t hn]
    walk_at "dl"
    exact h1 hn
  · rw [numB_f hn]
    walk_at "dl"
    exact h2 hn
theorem sh1 (n : Nat) : (1 : Int) * 2 ^ ((n : Int)).toNat = ((2 ^ n : Nat) : Int) := by
  rw [Int.one_mul, Int.toNat_natCast, Int.natCast_pow]
  rfl
theorem sh2 (n : Nat) : (1 : Int) * 2 ^ (2 * (n : Int)).toNat = ((4 ^ n : Nat) : Int) := by
  have : (2 * (n : Int)).toNat = 2 * n := by omega
  rw [Int.one_mul, this, Int.pow_mul, Int.natCast_pow]
  rfl
theorem sr2 (k n : Nat) : ((k : Int) / 2 ^ (2 * (n : Int)).toNat) % 4 = ((k / 4 ^ n % 4 : Nat) : Int) := by
  have : (2 * (n : Int)).toNat = 2 * n := by omega
  rw [this, Int.pow_mul, Int.natCast_emod, Int.natCast_ediv, Int.natCast_pow]
  rfl
def sp_cell (C_OutOfRange C_NotThere : Addr) : PSp := fun ds q x => ∃ n k : Int, ds = [.int n, .int k] ∧ (¬ InO n → x C_OutOfRange) ∧ (InO n → ¬ (0 ≤ k ∧ k < 4 ^ n.toNat) → x C_NotThere) ∧
  (∀ n' k' : Nat, n = n' → k = k' → n' ≤ 40 → k' < 4 ^ n' → q (.d (cD (cell n' k'))))
theorem cell_ok (ds q x) (h : sp_cell C_OutOfRange C_NotThere ds q x) : T_cell_on_path (sp_see C_OutOfRange) sp_is_number C_NotThere (SEr q x) (startE N_cell_on_path ds) := by
  obtain ⟨n, k, rfl, h1, h2, h3⟩ := h
  unfold T_cell_on_path
  walk_at "dl"
  refine ⟨n, rfl, fun hn => ?_, h1⟩
  obtain ⟨n, rfl⟩ := Int.eq_ofNat_of_zero_le hn.1
  have hn40 : n ≤ 40 := by have := hn.2; omega
  walk_at "dl"
  refine ⟨cmx (by decide) (by omega), cshl (by decide) (by omega) (by omega), _, _, _, rfl, rfl, ?_⟩
  rw [sh2]
  have h4 := p4 n
  by_cases hk : 0 ≤ k ∧ k < 4 ^ n
  · rw [numB_t ⟨hk.1, by have := hk.2; rw [Int.natCast_pow]; show k ≤ 4 ^ n - 1; omega⟩]
    obtain ⟨k, rfl⟩ := Int.eq_ofNat_of_zero_le hk.1
    have hk4 : k < 4 ^ n := by have := hk.2; exact_mod_cast this
    have h := h3 n k rfl rfl hn40 hk4
    walk_at "dl"
    refine ⟨by omega, by omega, ?_⟩
    refine ⟨fun i ρ => ∃ s4 s5 s6, ρ = [.va (.int (n : Nat)), .va (.int (k : Nat)), .va (.int ((cell i k).1 : Nat)), .va (.int ((cell i k).2 : Nat)), s4, s5, s6], ⟨_, _, _, rfl⟩, fun i d ρ hd hP => ?_, fun ρ hP => ?_⟩
    · obtain ⟨hi, rfl⟩ := rng_get hd
      obtain ⟨s4, s5, s6, rfl⟩ := hP
      have hi : i < n := by omega
      have l := cell_lt i k
      have h2i := p2 i
      have hqq := Nat.mod_lt (k / 4 ^ i) (show 0 < 4 by decide)
      rw [Int.zero_add]
      walk_at "dl"
      refine ⟨cshl (by decide) (by omega) (by omega), cmx (by decide) (by omega), by omega, by decide, ?_⟩
      rw [sr2, sh1]
      have es : cell (i + 1) k = stp (k / 4 ^ i % 4) (2 ^ i) (cell i k) := rfl
      generalize hc : cell i k = c at *
      generalize k / 4 ^ i % 4 = qq at *
      generalize hS : 2 ^ i = S at *
      obtain ⟨cx, cy⟩ := c
      have l1 : cx < S := l.1
      have l2 : cy < S := l.2
      have S40 : S ≤ 2 ^ 40 := by rw [← hS]; exact Nat.pow_le_pow_right (by decide) (by omega)
      have S40 : S ≤ 1099511627776 := S40
      rcases q4 hqq with rfl | rfl | rfl | rfl
      · walk_at "dl"
        exact ⟨_, _, _, by rw [es]; rfl⟩
      · walk_at "dl"
        exact ⟨_, _, _, by rw [es]; rfl⟩
      · walk_at "dl"
        exact ⟨_, _, _, by rw [es]; rfl⟩
      · walk_at "dl"
        rw [show 2 * (S : Int) - 1 - cy = ((2 * S - 1 - cy : Nat) : Int) by omega, show (S : Int) - 1 - cx = ((S - 1 - cx : Nat) : Int) by omega]
        exact ⟨cmx (by decide) (by omega), _, _, _, by rw [es]; rfl⟩
    · obtain ⟨s4, s5, s6, rfl⟩ := hP
      rw [rng_len, Int.toNat_natCast]
      walk_at "dl"
      exact h
  · rw [numB_f (by rw [Int.natCast_pow]; intro z; exact hk ⟨z.1, by have := z.2; show k < 4 ^ n; have e : ((4 : Nat) : Int) ^ n = 4 ^ n := rfl; omega⟩)]
    walk_at "dl"
    exact h2 hn (by rw [Int.toNat_natCast]; exact hk)
def sp_place (C_OutOfRange C_NotThere : Addr) : PSp := fun ds q x => ∃ n a b : Int, ds = [.int n, .tup [.int a, .int b]] ∧ (¬ InO n → x C_OutOfRange) ∧ (InO n → ¬ ((0 ≤ a ∧ a < 2 ^ n.toNat) ∧ 0 ≤ b ∧ b < 2 ^ n.toNat) → x C_NotThere) ∧
  (∀ n' a' b' : Nat, n = n' → a = a' → b = b' → n' ≤ 40 → a' < 2 ^ n' → b' < 2 ^ n' → q (.d (.int (place n' a' b' : Nat))))
theorem numN {a : Int} {n : Nat} : numB (.int a) 0 (((2 ^ n : Nat) : Int) - 1) = decide (0 ≤ a ∧ a < 2 ^ n) := by
  have e : ((2 ^ n : Nat) : Int) = 2 ^ n := by rw [Int.natCast_pow]; rfl
  by_cases h : 0 ≤ a ∧ a < 2 ^ n
  · rw [decide_eq_true h, numB_t ⟨h.1, by rw [e]; omega⟩]
  · rw [decide_eq_false h, numB_f (by rw [e]; intro z; exact h ⟨z.1, by omega⟩)]
theorem place_s (n x y : Nat) : place (n + 1) x y = if x < 2 ^ n ∧ y < 2 ^ n then place n y x else if x < 2 ^ n then 4 ^ n + place n x (y - 2 ^ n) else if 2 ^ n ≤ y then 2 * 4 ^ n + place n (x - 2 ^ n) (y - 2 ^ n)
    else 3 * 4 ^ n + place n (2 ^ n - 1 - y) (2 * 2 ^ n - 1 - x) := rfl
theorem place_ok (ds q x) (h : sp_place C_OutOfRange C_NotThere ds q x) : T_place_on_path (sp_see C_OutOfRange) sp_is_number C_NotThere (SEr q x) (startE N_place_on_path ds) := by
  obtain ⟨n, a, b, rfl, h1, h2, h3⟩ := h
  unfold T_place_on_path
  walk_at "dl"
  refine ⟨n, rfl, fun hn => ?_, h1⟩
  obtain ⟨n, rfl⟩ := Int.eq_ofNat_of_zero_le hn.1
  have hn40 : n ≤ 40 := by have := hn.2; omega
  walk_at "dl"
  refine ⟨cshl (by decide) (by omega) (by omega), _, _, _, rfl, rfl, ?_⟩
  rw [sh1, numN]
  by_cases ha : 0 ≤ a ∧ a < 2 ^ n
  · rw [decide_eq_true ha]
    walk_at "dl"
    refine ⟨cshl (by decide) (by omega) (by omega), _, _, _, rfl, rfl, ?_⟩
    rw [sh1, numN]
    by_cases hb : 0 ≤ b ∧ b < 2 ^ n
    · rw [decide_eq_true hb]
      obtain ⟨a, rfl⟩ := Int.eq_ofNat_of_zero_le ha.1
      obtain ⟨b, rfl⟩ := Int.eq_ofNat_of_zero_le hb.1
      have ha2 : a < 2 ^ n := by have := ha.2; exact_mod_cast this
      have hb2 : b < 2 ^ n := by have := hb.2; exact_mod_cast this
      have h := h3 n a b rfl rfl rfl hn40 ha2 hb2
      walk_at "dl"
      refine ⟨n, ?_, ?_⟩
      · have := RgC.neg (i := (n : Int) - 1) (j := -1) (by omega) (by omega) (by decide) (by decide)
        rw [show ((n : Int) - 1 - -1).toNat = n by omega] at this
        exact this
      refine ⟨fun i ρ => ∃ (x y f : Nat) (s5 s6 s7 : Sl), x < 2 ^ (n - i) ∧ y < 2 ^ (n - i) ∧ f * 4 ^ (n - i) + place (n - i) x y = place n a b ∧ ρ = [.va (.int (n : Nat)), .va (.tup [.int (a : Nat), .int (b : Nat)]), .va (.int (x : Nat)), .va (.int (y : Nat)), .va (.int (f : Nat)), s5, s6, s7], ⟨a, b, 0, _, _, _, ha2, hb2, by rw [Nat.zero_mul, Nat.zero_add]; rfl, rfl⟩, fun i d ρ hd hP => ?_, fun ρ hP => ?_⟩
      · obtain ⟨hi, rfl⟩ := rngc_get hd
        obtain ⟨x, y, f, s5, s6, s7, hx, hy, hf, rfl⟩ := hP
        obtain ⟨o, ho⟩ : ∃ o, n - i = o + 1 := ⟨n - i - 1, by omega⟩
        have ho2 : n - (i + 1) = o := by omega
        have hon : o < n := by omega
        rw [ho] at hx hy hf
        rw [p2s] at hx hy
        rw [p4s] at hf
        have hS0 := p2 o
        rw [show (n : Int) - 1 + (i : Int) * -1 = (o : Nat) by omega]
        have hf1 : f * (4 * 4 ^ o) = 4 * f * 4 ^ o := by rw [← Nat.mul_assoc, Nat.mul_comm f 4]
        rw [hf1] at hf
        rw [place_s] at hf
        have hpl := (cell_place n a b ha2 hb2).2
        have hpl4 : 4 ^ n ≤ 4 ^ 40 := Nat.pow_le_pow_right (by decide) hn40
        have S40 : 2 ^ o ≤ 2 ^ 40 := Nat.pow_le_pow_right (by decide) (by omega)
        have S40 : 2 ^ o ≤ 1099511627776 := S40
        walk_at "dl"
        refine ⟨cshl (by decide) (by omega) (by omega), ?_⟩
        rw [sh1]
        generalize hS : 2 ^ o = S at *
        have hS' : 2 ^ (n - (i + 1)) = S := by rw [ho2]; exact hS
        have hf80 : Bt 80 (f : Int) := by
          have : f * 1 ≤ f * (4 * 4 ^ o) := Nat.mul_le_mul_left _ (by have := p4 o; omega)
          show f < 2 ^ 80
          have e80 : (2 : Nat) ^ 80 = 4 ^ 40 := by decide
          omega
        have m4 : CMulX 4 (f : Int) := cmulx (a := 64) (b := 80) (bt_lit (by decide)) hf80 (by decide)
        split
        · rename_i c1
          have c1 : x < S := by omega
          walk_at "dl"
          split
          · rename_i c2
            have c2 : y < S := by omega
            rw [if_pos ⟨c1, c2⟩] at hf
            walk_at "dl"
            rw [show 4 * (f : Int) + 0 = ((4 * f : Nat) : Int) by omega]
            exact ⟨m4, y, x, 4 * f, _, _, _, by rw [hS']; exact c2, by rw [hS']; exact c1, by rw [ho2]; exact hf, rfl⟩
          · rename_i c2
            have c2 : ¬ y < S := by omega
            rw [if_neg (fun z => c2 z.2), if_pos c1] at hf
            walk_at "dl"
            rw [if_pos (show (x : Int) < S by omega)]
            walk_at "dl"
            rw [show 4 * (f : Int) + 1 = ((4 * f + 1 : Nat) : Int) by omega, show (y : Int) - S = ((y - S : Nat) : Int) by omega]
            exact ⟨m4, x, y - S, 4 * f + 1, _, _, _, by rw [hS']; exact c1, by rw [hS']; omega, by rw [ho2, Nat.add_mul, Nat.one_mul]; omega, rfl⟩
        · rename_i c1
          have c1 : ¬ x < S := by omega
          rw [if_neg (fun z => c1 z.1), if_neg c1] at hf
          walk_at "dl"
          split
          · rename_i c2
            exact absurd c2 (by omega)
          walk_at "dl"
          split
          · rename_i c2
            have c2 : S ≤ y := by omega
            rw [if_pos c2] at hf
            walk_at "dl"
            rw [show 4 * (f : Int) + 2 = ((4 * f + 2 : Nat) : Int) by omega, show (y : Int) - S = ((y - S : Nat) : Int) by omega, show (x : Int) - S = ((x - S : Nat) : Int) by omega]
            exact ⟨m4, x - S, y - S, 4 * f + 2, _, _, _, by rw [hS']; omega, by rw [hS']; omega, by rw [ho2, Nat.add_mul]; omega, rfl⟩
          · rename_i c2
            have c2 : ¬ S ≤ y := by omega
            rw [if_neg c2] at hf
            walk_at "dl"
            rw [show 4 * (f : Int) + 3 = ((4 * f + 3 : Nat) : Int) by omega, show (S : Int) - 1 - y = ((S - 1 - y : Nat) : Int) by omega, show 2 * (S : Int) - 1 - x = ((2 * S - 1 - x : Nat) : Int) by omega]
            exact ⟨cmx (by decide) (by omega), m4, S - 1 - y, 2 * S - 1 - x, 4 * f + 3, _, _, _, by rw [hS']; omega, by rw [hS']; omega, by rw [ho2, Nat.add_mul]; omega, rfl⟩
      · obtain ⟨x, y, f, s5, s6, s7, hx, hy, hf, rfl⟩ := hP
        rw [rngc_len, Nat.sub_self] at hf
        have hf : f = place n a b := by
          have : place 0 x y = 0 := rfl
          rw [this] at hf
          omega
        walk_at "dl"
        rw [hf]
        exact h
    · rw [decide_eq_false hb]
      walk_at "dl"
      exact h2 hn (by rw [Int.toNat_natCast]; exact fun z => hb z.2)
  · rw [decide_eq_false ha]
    walk_at "dl"
    exact h2 hn (by rw [Int.toNat_natCast]; exact fun z => ha z.1)
end
end K91

set_option Elab.async false
set_option linter.all false
set_option maxRecDepth 100000
set_option maxHeartbeats 4000000
namespace K91
open PySem PySem.Spec PyProof.Rows L2 DL LW
section
variable {C_OutOfRange C_NotThere : Addr} {wd : Addr → Option Str}
instance (n : Int) : Decidable (InO n) := by unfold InO; infer_instance
def tl0 (n k : Int) : D := if InO n then (if 0 ≤ k ∧ k < 4 ^ n.toNat then cD (cell n.toNat k.toNat) else .str "none") else .str "range"
def tl1 (n a b : Int) : D := if InO n then (if (0 ≤ a ∧ a < 2 ^ n.toNat) ∧ 0 ≤ b ∧ b < 2 ^ n.toNat then .int (place n.toNat a.toNat b.toNat : Nat) else .str "none") else .str "range"
def sp_told : PSp := fun ds q _ => (∃ n k : Int, ds = [.int 0, .int n, .int k] ∧ q (.d (tl0 n k))) ∨ ∃ n a b : Int, ds = [.int 1, .int n, .tup [.int a, .int b]] ∧ q (.d (tl1 n a b))
theorem told_ok (w1 : wd C_OutOfRange = some "range") (w2 : wd C_NotThere = some "none") (ds q x) (h : sp_told ds q x) : T__law_told (sp_cell C_OutOfRange C_NotThere) (sp_place C_OutOfRange C_NotThere) wd (SEr q x) (startE N__law_told ds) := by
  rcases h with ⟨n, k, rfl, h⟩ | ⟨n, a, b, rfl, h⟩
  · unfold T__law_told
    walk_at "dl"
    unfold tl0 at h
    refine ⟨n, k, rfl, fun hn => ⟨by decide, ?_⟩, fun hn hk => ⟨by decide, ?_⟩, fun n' k' e1 e2 h1 h2 => ?_⟩
    · rw [if_neg hn] at h
      rw [w1]
      exact h
    · rw [if_pos hn, if_neg hk] at h
      rw [w2]
      exact h
    · subst e1 e2
      rw [if_pos ⟨by omega, by omega⟩, if_pos ⟨by omega, by exact_mod_cast h2⟩] at h
      exact h
  · unfold T__law_told
    walk_at "dl"
    unfold tl1 at h
    refine ⟨n, a, b, rfl, fun hn => ⟨by decide, ?_⟩, fun hn hk => ⟨by decide, ?_⟩, fun n' a' b' e1 e2 e3 h1 h2 h3 => ?_⟩
    · rw [if_neg hn] at h
      rw [w1]
      exact h
    · rw [if_pos hn, if_neg hk] at h
      rw [w2]
      exact h
    · subst e1 e2 e3
      rw [if_pos ⟨by omega, by omega⟩, if_pos ⟨⟨by omega, by exact_mod_cast h2⟩, by omega, by exact_mod_cast h3⟩] at h
      exact h
end
abbrev cL (l : List (Nat × Nat)) : D := .lst (l.map cD)
def sp_path : PSp := fun ds q _ => ∃ n : Nat, ds = [.int (n : Nat)] ∧ n ≤ 6 ∧ q (.d (cL (cells n)))
theorem cL_get {l : List (Nat × Nat)} {i : Nat} {d : D} (h : (l.map cD)[i]? = some d) : ∃ c, l[i]? = some c ∧ d = cD c := by
  rw [List.getElem?_map] at h
  obtain ⟨c, e, rfl⟩ := Option.map_eq_some_iff.mp h
  exact ⟨c, e, rfl⟩
theorem mk_snoc {l : List (Nat × Nat)} {f : Nat × Nat → Nat × Nat} {j : Nat} {c : Nat × Nat} (h : l[j]? = some c) : ((l.take j).map f).map cD ++ [cD (f c)] = ((l.take (j + 1)).map f).map cD := by
  rw [List.take_add_one, h, List.map_append, List.map_append]
  rfl
theorem c4096 {n : Nat} (h : n ≤ 6) : (cells n).length ≤ 4096 := by
  rw [cells_len]
  have : 4 ^ n ≤ 4 ^ 6 := Nat.pow_le_pow_right (by decide) h
  exact this
theorem path_ok (ds q x) (h : sp_path ds q x) : T__law_path (SEr q x) (startE N__law_path ds) := by
  obtain ⟨n, rfl, hn, h⟩ := h
  unfold T__law_path
  walk_at "dl"
  refine ⟨by omega, by omega, ?_⟩
  refine ⟨fun i ρ => ∃ (s3 s4 s5 s6 s7 : Sl), ρ = [.va (.int (n : Nat)), .va (cL (cells i)), .va (.int ((2 ^ i : Nat) : Int)), s3, s4, s5, s6, s7, .no, .no], ⟨_, _, _, _, _, rfl⟩, fun i d ρ hd hP => ?_, fun ρ hP => ?_⟩
  · obtain ⟨hi, rfl⟩ := rng_get hd
    obtain ⟨s3, s4, s5, s6, s7, rfl⟩ := hP
    have hi : i < n := by omega
    have hlen := c4096 (n := i) (by omega)
    have hcl : ∀ c ∈ cells i, c.1 < 2 ^ i ∧ c.2 < 2 ^ i := fun c hc => by
      obtain ⟨k, _, rfl⟩ := List.mem_map.mp hc
      exact cell_lt i k
    have hcs := cells_s i
    have hp := p2s i
    have S64 : 2 ^ i ≤ 2 ^ 6 := Nat.pow_le_pow_right (by decide) (by omega)
    have S64 : 2 ^ i ≤ 64 := S64
    have hl4 := c4096 (n := i + 1) (by omega)
    rw [Int.zero_add]
    generalize hC : cells i = L at *
    generalize hS : 2 ^ i = S at *
    have tl : ∀ (f : Nat × Nat → Nat × Nat) (j : Nat), (((L.take j).map f).map cD).length ≤ 4096 := fun f j => by
      rw [List.length_map, List.length_map, List.length_take]
      omega
    walk_at "dl"
    refine ⟨rfl, fun j acc ρ => acc = ((L.take j).map (stp 0 S)).map cD ∧ ρ = [.va (.int (n : Nat)), .va (cL L), .va (.int (S : Nat)), .va (.int (i : Int)), s4, s5, s6, s7, .no, .no], ⟨rfl, rfl⟩, fun j d acc ρ hd hP => ?_, fun acc ρ hP => ?_⟩
    · obtain ⟨rfl, rfl⟩ := hP
      obtain ⟨c, hc, rfl⟩ := cL_get hd
      walk_at "dl"
      exact ⟨Nat.lt_of_le_of_lt (tl _ _) (by rw [sizeLine_eq]; decide), mk_snoc (f := stp 0 S) hc, rfl⟩
    obtain ⟨rfl, rfl⟩ := hP
    rw [List.length_map, List.take_length]
    (walk_at "dl"; repeat (simp only [unwipe, Option.getD_some]; walk_at "dl"))
    refine ⟨rfl, fun j acc ρ => acc = ((L.take j).map (stp 1 S)).map cD ∧ ρ = [.va (.int (n : Nat)), .va (cL L), .va (.int (S : Nat)), .va (.int (i : Int)), .ow (.lst ((L.map (stp 0 S)).map cD)), s5, s6, s7, .no, .no], ⟨rfl, rfl⟩, fun j d acc ρ hd hP => ?_, fun acc ρ hP => ?_⟩
    · obtain ⟨rfl, rfl⟩ := hP
      obtain ⟨c, hc, rfl⟩ := cL_get hd
      walk_at "dl"
      exact ⟨Nat.lt_of_le_of_lt (tl _ _) (by rw [sizeLine_eq]; decide), mk_snoc (f := stp 1 S) hc, rfl⟩
    obtain ⟨rfl, rfl⟩ := hP
    rw [List.length_map, List.take_length]
    (walk_at "dl"; repeat (simp only [unwipe, Option.getD_some]; walk_at "dl"))
    refine ⟨rfl, fun j acc ρ => acc = ((L.take j).map (stp 2 S)).map cD ∧ ρ = [.va (.int (n : Nat)), .va (cL L), .va (.int (S : Nat)), .va (.int (i : Int)), .ow (.lst ((L.map (stp 0 S)).map cD)), .ow (.lst ((L.map (stp 1 S)).map cD)), s6, s7, .no, .no], ⟨rfl, rfl⟩, fun j d acc ρ hd hP => ?_, fun acc ρ hP => ?_⟩
    · obtain ⟨rfl, rfl⟩ := hP
      obtain ⟨c, hc, rfl⟩ := cL_get hd
      walk_at "dl"
      exact ⟨Nat.lt_of_le_of_lt (tl _ _) (by rw [sizeLine_eq]; decide), mk_snoc (f := stp 2 S) hc, rfl⟩
    obtain ⟨rfl, rfl⟩ := hP
    rw [List.length_map, List.take_length]
    (walk_at "dl"; repeat (simp only [unwipe, Option.getD_some]; walk_at "dl"))
    refine ⟨rfl, fun j acc ρ => acc = ((L.take j).map (stp 3 S)).map cD ∧ ρ = [.va (.int (n : Nat)), .va (cL L), .va (.int (S : Nat)), .va (.int (i : Int)), .ow (.lst ((L.map (stp 0 S)).map cD)), .ow (.lst ((L.map (stp 1 S)).map cD)), .ow (.lst ((L.map (stp 2 S)).map cD)), s7, .no, .no], ⟨rfl, rfl⟩, fun j d acc ρ hd hP => ?_, fun acc ρ hP => ?_⟩
    · obtain ⟨rfl, rfl⟩ := hP
      obtain ⟨c, hc, rfl⟩ := cL_get hd
      obtain ⟨l1, l2⟩ := hcl c (List.mem_of_getElem? hc)
      walk_at "dl"
      refine ⟨cmx (by decide) (by omega), Nat.lt_of_le_of_lt (tl _ _) (by rw [sizeLine_eq]; decide), ?_, rfl⟩
      rw [← mk_snoc (f := stp 3 S) hc, show 2 * (S : Int) - 1 - (c.2 : Int) = ((2 * S - 1 - c.2 : Nat) : Int) by omega, show (S : Int) - 1 - (c.1 : Int) = ((S - 1 - c.1 : Nat) : Int) by omega]
      rfl
    obtain ⟨rfl, rfl⟩ := hP
    rw [List.length_map, List.take_length]
    (walk_at "dl"; repeat (simp only [unwipe, Option.getD_some]; walk_at "dl"))
    have lens : (List.map cD (List.map (stp 0 S) L)).length + (List.map cD (List.map (stp 1 S) L)).length + (List.map cD (List.map (stp 2 S) L)).length + (List.map cD (List.map (stp 3 S) L)).length ≤ 16384 := by
      simp only [List.length_map]
      omega
    have sz : sizeLine = 16777216 := by rw [sizeLine_eq]
    refine ⟨by omega, by rw [List.length_append]; omega, by rw [List.length_append, List.length_append]; omega, cmx (by decide) (by omega), ?_⟩
    rw [hcs, hp, ← List.map_append, ← List.map_append, ← List.map_append, show 2 * (S : Int) = ((2 * S : Nat) : Int) by omega]
    exact ⟨_, _, _, _, _, rfl⟩
  · obtain ⟨s3, s4, s5, s6, s7, rfl⟩ := hP
    rw [rng_len, Int.toNat_natCast]
    walk_at "dl"
    exact h
end K91

set_option Elab.async false
set_option linter.all false
set_option maxRecDepth 100000
set_option maxHeartbeats 4000000
namespace K91
open PySem PySem.Spec PyProof.Rows L2 DL LW
theorem cD_ok (c : Nat × Nat) : okA 1 (cD c) := okA_tup (by simp) (okL_cons okA_i (okL_cons okA_i okL_nil))
theorem eqC (a b : Nat × Nat) : eqD (cD a) (cD b) = decide (a = b) := by
  rw [eqD_tt, eqDs_cc, eqDs_cc, eqDs_nn, eqN, eqN, Bool.and_true, ← Bool.decide_and]
  exact decide_eq_decide.mpr (by rw [Prod.ext_iff])
theorem tl0_in {n k : Nat} (hn : n ≤ 40) (hk : k < 4 ^ n) : tl0 (n : Nat) (k : Nat) = cD (cell n k) := by
  unfold tl0
  rw [if_pos ⟨by omega, by omega⟩, if_pos ⟨by omega, by exact_mod_cast hk⟩]
  rfl
theorem tl1_in {n a b : Nat} (hn : n ≤ 40) (ha : a < 2 ^ n) (hb : b < 2 ^ n) : tl1 (n : Nat) (a : Nat) (b : Nat) = .int (place n a b : Nat) := by
  unfold tl1
  rw [if_pos ⟨by omega, by omega⟩, if_pos ⟨⟨by omega, by exact_mod_cast ha⟩, by omega, by exact_mod_cast hb⟩]
  rfl
def sp_law : PSp := fun ds q _ => ∃ ns : List Int, ds = [.fz (ns.map .int)] ∧ ns.length ≤ 63 ∧ (∀ z ∈ ns, Bt 1048576 z) ∧ q (.d (.bl true))
theorem law_ok (ds q x) (h : sp_law ds q x) : T_law sp_draws sp_take sp_path (sp_alikeN 2) sp_told (SEr q x) (startE N_law ds) := by
  obtain ⟨ns, rfl, hl, hb, h⟩ := h
  unfold T_law
  refine sSeq_via (fun ρ' => ∃ (rs : List Int), ρ' = [.va (.fz (ns.map .int)), .ow (.lst (rs.map .int)), .no, .no, .no, .no, .no, .no, .no, .no, .no, .no, .no, .no, .no, .no, .no, .no, .no, .no, .no, .no]) (fun N hN => ?_) (fun ρ' hρ => ?_)
  · walk_at "dl"
    refine ⟨ns, rfl, hl, hb, fun rs1 => ?_⟩
    walk_at "dl"
    exact hN _ ⟨_, rfl⟩
  obtain ⟨rs, rfl⟩ := hρ
  clear hl hb
  refine sSeq_via (fun ρ' => ∃ (rs : List Int) (n : Nat), n ≤ 5 ∧ ρ' = [.va (.fz (ns.map .int)), .ow (.lst (rs.map .int)), .va (.int (n : Nat)), .no, .no, .no, .no, .no, .no, .no, .no, .no, .no, .no, .no, .no, .no, .no, .no, .no, .no, .no]) (fun N hN => ?_) (fun ρ' hρ => ?_)
  · walk_at "dl"
    refine ⟨_, _, rfl, rfl, by decide, fun r1 rs1 r10 r11 => ?_⟩
    obtain ⟨t1, rfl⟩ := nat_of r10
    walk_at "dl"
    obtain ⟨z, hz, ix⟩ := at01 (.int 5) (.int 6) (decide ((t1 : Int) = 0))
    obtain ⟨b, b1, b2, rfl⟩ : ∃ b : Int, 0 < b ∧ b ≤ 6 ∧ z = .int b := by rcases hz with rfl | rfl <;> exact ⟨_, by decide, by decide, rfl⟩
    (walk_at "dl"; repeat (simp only [ix]; walk_at "dl"))
    refine ⟨_, _, rfl, rfl, b1, fun r2 rs2 r20 r21 => ?_⟩
    obtain ⟨t2, rfl⟩ := nat_of r20
    walk_at "dl"
    exact hN _ ⟨rs2, t2, by omega, rfl⟩
  obtain ⟨rs, n, hn, rfl⟩ := hρ
  refine sSeq_via (fun ρ' => ρ' = [.va (.fz (ns.map .int)), .ow (.lst (rs.map .int)), .va (.int (n : Nat)), .va (cL (cells n)), .va (.int ((2 ^ n : Nat) : Int)), .no, .no, .no, .no, .no, .no, .no, .no, .no, .no, .no, .no, .no, .no, .no, .no, .no]) (fun N hN => ?_) (fun ρ' hρ => ?_)
  · walk_at "dl"
    refine ⟨n, rfl, by omega, ?_⟩
    walk_at "dl"
    refine ⟨cshl (by decide) (by omega) (by omega), ?_⟩
    rw [sh1]
    exact hN _ rfl
  subst hρ
  have hlen := c4096 (n := n) (by omega)
  have hcl := cells_len n
  have h4 := p4 n
  have h2 := p2 n
  have e24 : ((2 ^ n : Nat) : Int) * ((2 ^ n : Nat) : Int) = ((4 ^ n : Nat) : Int) := by
    rw [← Int.natCast_mul, ← Nat.mul_pow]
  have n64 : 2 ^ n ≤ 2 ^ 6 := Nat.pow_le_pow_right (by decide) (by omega)
  have n64 : 2 ^ n ≤ 64 := n64
  have hix : ∀ k : Nat, k < 4 ^ n → atI ((cells n).map cD) (k : Int) = some (cD (cell n k)) := fun k hk => atI_at rfl (by rw [List.getElem?_map, cells_get hk]; rfl)
  have shc : ∀ c, shD (cD c) := fun c => shA (cD_ok c) (by decide)
  refine sSeq_via (fun ρ' => ρ' = [.va (.fz (ns.map .int)), .ow (.lst (rs.map .int)), .va (.int (n : Nat)), .va (cL (cells n)), .va (.int ((2 ^ n : Nat) : Int)), .no, .no, .no, .no, .no, .no, .no, .no, .no, .no, .no, .no, .no, .no, .no, .no, .no]) (fun N hN => ?_) (fun ρ' hρ => ?_)
  · walk_at "dl"
    refine ⟨rfl, fun j acc ρ => acc = ((cells n).take j).map (fun c => D.tup [cD c, .int 1]) ∧ ρ = [.va (.fz (ns.map .int)), .ow (.lst (rs.map .int)), .va (.int (n : Nat)), .va (cL (cells n)), .va (.int ((2 ^ n : Nat) : Int)), .no, .no, .no, .no, .no, .no, .no, .no, .no, .no, .no, .no, .no, .no, .no, .no, .no], ⟨rfl, rfl⟩, fun j d acc ρ hd hP => ?_, fun acc ρ hP => ?_⟩
    · obtain ⟨rfl, rfl⟩ := hP
      obtain ⟨c, hc, rfl⟩ := cL_get hd
      walk_at "dl"
      refine ⟨by rw [List.length_map, List.length_take, sizeLine_eq]; omega, ?_, rfl⟩
      rw [List.take_add_one, hc, List.map_append]
      rfl
    obtain ⟨rfl, rfl⟩ := hP
    rw [List.length_map, List.take_length]
    (walk_at "dl"; repeat (simp only [unwipe, Option.getD_some]; walk_at "dl"))
    refine ⟨(cells n).map fun c : Nat × Nat => ([.inl (c.1 : Int), .inl (c.2 : Int)], .int 1), by rw [List.map_map]; rfl, ?_⟩
    have nd : (List.map (fun z : List Key × D => z.1) ([] ++ (cells n).map fun c : Nat × Nat => (([.inl (c.1 : Int), .inl (c.2 : Int)], .int 1) : List Key × D))).Nodup := by
      rw [List.nil_append, List.map_map]
      refine nodup_map_of (fun a _ b _ e => ?_) (cells_nodup n)
      have e : [Sum.inl (a.1 : Int), Sum.inl (a.2 : Int)] = ([Sum.inl (b.1 : Int), Sum.inl (b.2 : Int)] : List Key) := e
      injection e with e1 e2
      injection e2 with e2 _
      have e1 := Sum.inl.inj e1
      have e2 := Sum.inl.inj e2
      exact Prod.ext (by omega) (by omega)
    rw [mergeT_nodup _ _ nd, List.nil_append]
    (walk_at "dl"; repeat (simp only [List.length_map, hcl]; walk_at "dl"))
    refine ⟨cmx (by omega) (by omega), ?_⟩
    rw [e24]
    walk_at "dl"
    have hx0 : atI ((cells n).map cD) 0 = some (cD (0, 0)) := by have := hix 0 h4; rw [cell_0] at this; exact this
    have hxe : atI ((cells n).map cD) (-1) = some (cD (2 ^ n - 1, 0)) := atI_neg1 (n := 4 ^ n - 1) (by rw [List.length_map, hcl]; omega) (by rw [List.getElem?_map, cells_get (by omega), cell_end]; rfl)
    (walk_at "dl"; repeat (simp only [hx0, hxe]; walk_at "dl"))
    refine ⟨shc (0, 0), shc (0, 0), ?_⟩
    rw [eqV' (shc (0, 0))]
    rotate_left
    · rfl
    · rfl
    (walk_at "dl"; repeat (simp only [hxe]; walk_at "dl"))
    rw [show ((2 ^ n : Nat) : Int) - 1 = ((2 ^ n - 1 : Nat) : Int) by omega]
    refine ⟨shc (2 ^ n - 1, 0), shc (2 ^ n - 1, 0), ?_⟩
    rw [eqV' (shc (2 ^ n - 1, 0))]
    rotate_left
    · rfl
    · rfl
    walk_at "dl"
    exact hN _ rfl
  subst hρ
  refine sSeq_via (fun ρ' => ∃ (rs : List Int) (s6 : Sl), ρ' = [.va (.fz (ns.map .int)), .ow (.lst (rs.map .int)), .va (.int (n : Nat)), .va (cL (cells n)), .va (.int ((2 ^ n : Nat) : Int)), .no, s6, .no, .no, .no, .no, .no, .no, .no, .no, .no, .no, .no, .no, .no, .no, .no]) (fun N hN => ?_) (fun ρ' hρ => ?_)
  · walk_at "dl"
    refine ⟨by decide, by decide, ?_⟩
    refine ⟨rfl, fun j acc ρ => ∃ (rs : List Int) (xs : List Nat), acc = xs.map (fun k : Nat => D.int k) ∧ xs.length = j ∧ (∀ k ∈ xs, k < 4 ^ n) ∧ ρ = [.va (.fz (ns.map .int)), .ow (.lst (rs.map .int)), .va (.int (n : Nat)), .va (cL (cells n)), .va (.int ((2 ^ n : Nat) : Int)), .no, .no, .no, .no, .no, .no, .no, .no, .no, .no, .no, .no, .no, .no, .no, .no, .no], ⟨rs, [], rfl, rfl, by simp, rfl⟩, fun j d acc ρ hd hP => ?_, fun acc ρ hP => ?_⟩
    · obtain ⟨rs, xs, rfl, hj, hxs, rfl⟩ := hP
      obtain ⟨hj6, rfl⟩ := rng_get hd
      (walk_at "dl"; repeat (simp only [List.length_map]; walk_at "dl"))
      refine ⟨_, _, rfl, rfl, by omega, fun r1 rs1 r10 r11 => ?_⟩
      obtain ⟨t1, rfl⟩ := nat_of r10
      walk_at "dl"
      refine ⟨by rw [List.length_map, sizeLine_eq]; have : j < 6 := hj6; omega, rs1, xs ++ [t1], by rw [List.map_append]; rfl, by rw [List.length_append, hj]; rfl, fun k hk => ?_, rfl⟩
      rcases List.mem_append.mp hk with hk | hk
      · exact hxs k hk
      · obtain rfl := List.mem_singleton.mp hk
        omega
    obtain ⟨rs, xs, rfl, hj, hxs, rfl⟩ := hP
    (walk_at "dl"; repeat (simp only [unwipe, Option.getD_some, List.length_map, hcl]; walk_at "dl"))
    refine ⟨by rw [sizeLine_eq]; have : (rngD 0 (Int.toNat 6)).length = 6 := rfl; omega, ?_⟩
    refine ⟨fun i ρ => ∃ s6, ρ = [.va (.fz (ns.map .int)), .ow (.lst (rs.map .int)), .va (.int (n : Nat)), .va (cL (cells n)), .va (.int ((2 ^ n : Nat) : Int)), .no, s6, .no, .no, .no, .no, .no, .no, .no, .no, .no, .no, .no, .no, .no, .no, .no], ⟨_, rfl⟩, fun i d ρ hd hP => ?_, fun ρ hP => ?_⟩
    · obtain ⟨s6, rfl⟩ := hP
      obtain ⟨k, hk, rfl⟩ : ∃ k : Nat, k < 4 ^ n ∧ d = .int k := by
        rcases List.mem_cons.mp (List.mem_of_getElem? hd) with rfl | hm
        · exact ⟨0, h4, rfl⟩
        rcases List.mem_cons.mp hm with rfl | hm
        · exact ⟨4 ^ n - 1, by omega, by rw [show ((4 ^ n : Nat) : Int) - 1 = ((4 ^ n - 1 : Nat) : Int) by omega]⟩
        · obtain ⟨k, hk, rfl⟩ := List.mem_map.mp hm
          exact ⟨k, hxs k hk, rfl⟩
      have l := cell_lt n k
      walk_at "dl"
      refine .inl ⟨_, _, rfl, ?_⟩
      rw [tl0_in (by omega) hk]
      (walk_at "dl"; repeat (simp only [hix k hk]; walk_at "dl"))
      refine .inr ⟨_, _, _, rfl, ?_⟩
      rw [tl1_in (by omega) l.1 l.2, place_cell n k hk]
      (walk_at "dl"; repeat (simp only [hix k hk]; walk_at "dl"))
      refine ⟨_, rfl, okA_lst (by simp) (okL_cons (cD_ok _) (okL_cons okA_i okL_nil)), ?_⟩
      walk_at "dl"
      exact ⟨_, rfl⟩
    · obtain ⟨s6, rfl⟩ := hP
      exact hN _ ⟨_, _, rfl⟩
  obtain ⟨rs, s6, rfl⟩ := hρ
  refine sSeq_via (fun ρ' => ρ' = [.va (.fz (ns.map .int)), .ow (.lst (rs.map .int)), .va (.int (n : Nat)), .va (cL (cells n)), .va (.int ((2 ^ n : Nat) : Int)), .no, s6, .no, .no, .no, .no, .no, .no, .no, .no, .no, .no, .no, .no, .no, .no, .no]) (fun N hN => ?_) (fun ρ' hρ => ?_)
  · (walk_at "dl"; repeat (simp only [List.length_map, hcl]; walk_at "dl"))
    have := c4096 (n := n) (by omega)
    refine ⟨⟨by omega, by omega, by omega, by omega⟩, ?_⟩
    refine ⟨rfl, fun j acc ρ => acc = [] ∧ ρ = [.va (.fz (ns.map .int)), .ow (.lst (rs.map .int)), .va (.int (n : Nat)), .va (cL (cells n)), .va (.int ((2 ^ n : Nat) : Int)), .no, s6, .no, .no, .no, .no, .no, .no, .no, .no, .no, .no, .no, .no, .no, .no, .no], ⟨rfl, rfl⟩, fun j d acc ρ hd hP => ?_, fun acc ρ hP => ?_⟩
    · obtain ⟨rfl, rfl⟩ := hP
      obtain ⟨hj, rfl⟩ := rng_get hd
      have hj : j + 1 < 4 ^ n := by omega
      have ad := cell_adj n j hj
      rw [show (1 : Int) + (j : Int) = ((j + 1 : Nat) : Int) by omega]
      (walk_at "dl"; repeat (simp only [hix (j + 1) hj, show ((j + 1 : Nat) : Int) - 1 = (j : Int) by omega, hix j (by omega)]; walk_at "dl"))
      generalize cell n j = a at *
      generalize cell n (j + 1) = b at *
      unfold Adj at ad
      have e1 : (if (b.1 : Int) - a.1 < 0 then -((b.1 : Int) - a.1) else (b.1 : Int) - a.1) + (if (b.2 : Int) - a.2 < 0 then -((b.2 : Int) - a.2) else (b.2 : Int) - a.2) = 1 := by
        split <;> split <;> omega
      (walk_at "dl"; repeat (simp only [e1]; walk_at "dl"))
      first | exact ⟨rfl, rfl⟩ | exact ⟨trivial, rfl⟩ | rfl
    · obtain ⟨rfl, rfl⟩ := hP
      (walk_at "dl"; repeat (simp only [unwipe, Option.getD_some]; walk_at "dl"))
      refine ⟨sh_nil, sh_nil, ?_⟩
      rw [eq_nil]
      walk_at "dl"
      exact hN _ rfl
  subst hρ
  refine sSeq_via (fun ρ' => ∃ (rs : List Int) (far : Nat), (6 ≤ far ∧ far ≤ 40) ∧ ρ' = [.va (.fz (ns.map .int)), .ow (.lst (rs.map .int)), .va (.int (n : Nat)), .va (cL (cells n)), .va (.int ((2 ^ n : Nat) : Int)), .no, s6, .no, .va (.int (far : Nat)), .no, .no, .no, .no, .no, .no, .no, .no, .no, .no, .no, .no, .no]) (fun N hN => ?_) (fun ρ' hρ => ?_)
  · walk_at "dl"
    refine ⟨_, _, rfl, rfl, by decide, fun r1 rs1 r10 r11 => ?_⟩
    obtain ⟨t1, rfl⟩ := nat_of r10
    walk_at "dl"
    refine ⟨_, _, rfl, rfl, by decide, fun r2 rs2 r20 r21 => ?_⟩
    obtain ⟨t2, rfl⟩ := nat_of r20
    walk_at "dl"
    obtain ⟨z, hz, ix⟩ := at01 (.int (6 + (t1 : Int))) (.int 40) (decide ((t2 : Int) = 0))
    obtain ⟨b, b1, b2, rfl⟩ : ∃ b : Nat, 6 ≤ b ∧ b ≤ 40 ∧ z = .int (b : Nat) := by
      rcases hz with rfl | rfl
      · exact ⟨6 + t1, by omega, by omega, by rw [Int.natCast_add]; rfl⟩
      · exact ⟨40, by decide, by decide, rfl⟩
    (walk_at "dl"; repeat (simp only [ix]; walk_at "dl"))
    exact hN _ ⟨rs2, b, ⟨b1, b2⟩, rfl⟩
  obtain ⟨rs, far, ⟨f1, f2⟩, rfl⟩ := hρ
  refine sSeq_via (fun ρ' => ρ' = [.va (.fz (ns.map .int)), .ow (.lst (rs.map .int)), .va (.int (n : Nat)), .va (cL (cells n)), .va (.int ((2 ^ n : Nat) : Int)), .no, s6, .no, .va (.int (far : Nat)), .va (.int ((2 ^ far : Nat) : Int)), .no, .no, .no, .no, .no, .no, .no, .no, .no, .no, .no, .no]) (fun N hN => ?_) (fun ρ' hρ => ?_)
  · walk_at "dl"
    refine ⟨cshl (by decide) (by omega) (by omega), ?_⟩
    rw [sh1]
    exact hN _ rfl
  subst hρ
  have g4 := p4 far
  have g2 := p2 far
  have g64 : 4 ^ 6 ≤ 4 ^ far := Nat.pow_le_pow_right (by decide) f1
  have g64 : 4096 ≤ 4 ^ far := g64
  have g40 : 2 ^ far ≤ 2 ^ 40 := Nat.pow_le_pow_right (by decide) f2
  have g40 : 2 ^ far ≤ 1099511627776 := g40
  have f24 : ((2 ^ far : Nat) : Int) * ((2 ^ far : Nat) : Int) = ((4 ^ far : Nat) : Int) := by
    rw [← Int.natCast_mul, ← Nat.mul_pow]
  refine sSeq_via (fun ρ' => ∃ (rs : List Int) (m : Nat), m + 1 < 4 ^ far ∧ ρ' = [.va (.fz (ns.map .int)), .ow (.lst (rs.map .int)), .va (.int (n : Nat)), .va (cL (cells n)), .va (.int ((2 ^ n : Nat) : Int)), .no, .va (.int (m : Nat)), .no, .va (.int (far : Nat)), .va (.int ((2 ^ far : Nat) : Int)), .no, .no, .no, .no, .no, .no, .no, .no, .no, .no, .no, .no]) (fun N hN => ?_) (fun ρ' hρ => ?_)
  · (walk_at "dl"; repeat (simp only [e12, e13]; walk_at "dl"))
    refine ⟨cpow10 (by decide), _, _, rfl, rfl, by decide, fun r1 rs1 r10 r11 => ?_⟩
    (walk_at "dl"; repeat (simp only [e12, e13]; walk_at "dl"))
    refine ⟨cpow10 (by decide), cmx (by omega) (by decide), cpow10 (by decide), _, _, rfl, rfl, by decide, fun r2 rs2 r20 r21 => ?_⟩
    walk_at "dl"
    refine ⟨cmx (by omega) (by omega), ?_⟩
    rw [f24]
    refine ⟨by omega, ?_⟩
    obtain ⟨z, hz⟩ := nat_of (Int.emod_nonneg (r1 * 10000000000000 + r2) (show ((4 ^ far : Nat) : Int) - 1 ≠ 0 by omega))
    have hl := Int.emod_lt_of_pos (r1 * 10000000000000 + r2) (show 0 < ((4 ^ far : Nat) : Int) - 1 by omega)
    rw [hz] at hl ⊢
    exact hN _ ⟨rs2, z, by omega, rfl⟩
  obtain ⟨rs, m, hm, rfl⟩ := hρ
  refine sSeq_via (fun ρ' => ρ' = [.va (.fz (ns.map .int)), .ow (.lst (rs.map .int)), .va (.int (n : Nat)), .va (cL (cells n)), .va (.int ((2 ^ n : Nat) : Int)), .no, .va (.int (m : Nat)), .no, .va (.int (far : Nat)), .va (.int ((2 ^ far : Nat) : Int)), .va (cD (cell far m)), .va (cD (cell far (m + 1))), .no, .no, .no, .no, .no, .no, .no, .no, .no, .no]) (fun N hN => ?_) (fun ρ' hρ => ?_)
  · walk_at "dl"
    refine .inl ⟨_, _, rfl, ?_⟩
    rw [tl0_in f2 (by omega)]
    walk_at "dl"
    refine .inl ⟨_, _, rfl, ?_⟩
    rw [show (m : Int) + 1 = ((m + 1 : Nat) : Int) by omega, tl0_in f2 hm]
    walk_at "dl"
    exact hN _ rfl
  subst hρ
  have la := cell_lt far m
  have lb := cell_lt far (m + 1)
  have ad := cell_adj far m hm
  refine sSeq_via (fun ρ' => ρ' = [.va (.fz (ns.map .int)), .ow (.lst (rs.map .int)), .va (.int (n : Nat)), .va (cL (cells n)), .va (.int ((2 ^ n : Nat) : Int)), .no, .va (.int (m : Nat)), .no, .va (.int (far : Nat)), .va (.int ((2 ^ far : Nat) : Int)), .va (cD (cell far m)), .va (cD (cell far (m + 1))), .no, .no, .no, .no, .no, .no, .no, .no, .no, .no]) (fun N hN => ?_) (fun ρ' hρ => ?_)
  · walk_at "dl"
    refine ⟨[((cell far m).1 : Int), ((cell far m).2 : Int)], rfl, Nat.succ_pos _, fun u hu hmin => ?_⟩
    have u0 : 0 ≤ u := by simp only [List.mem_cons, List.not_mem_nil, or_false] at hu; omega
    have ug : u < ((2 ^ far : Nat) : Int) := by simp only [List.mem_cons, List.not_mem_nil, or_false] at hu; omega
    walk_at "dl"
    rw [if_pos u0]
    walk_at "dl"
    refine ⟨[((cell far m).1 : Int), ((cell far m).2 : Int)], rfl, Nat.succ_pos _, fun v hv hmax => ?_⟩
    have uv : u ≤ v := hmax u hu
    have vg : v < ((2 ^ far : Nat) : Int) := by simp only [List.mem_cons, List.not_mem_nil, or_false] at hv; omega
    walk_at "dl"
    rw [if_pos uv]
    walk_at "dl"
    rw [if_pos vg]
    generalize cell far m = a at *
    generalize cell far (m + 1) = b at *
    unfold Adj at ad
    have e1 : (if (a.1 : Int) - b.1 < 0 then -((a.1 : Int) - b.1) else (a.1 : Int) - b.1) + (if (a.2 : Int) - b.2 < 0 then -((a.2 : Int) - b.2) else (a.2 : Int) - b.2) = 1 := by
      split <;> split <;> omega
    (walk_at "dl"; repeat (simp only [e1]; walk_at "dl"))
    exact hN _ rfl
  subst hρ
  refine sSeq_via (fun ρ' => ρ' = [.va (.fz (ns.map .int)), .ow (.lst (rs.map .int)), .va (.int (n : Nat)), .va (cL (cells n)), .va (.int ((2 ^ n : Nat) : Int)), .no, .va (.int (m : Nat)), .no, .va (.int (far : Nat)), .va (.int ((2 ^ far : Nat) : Int)), .va (cD (cell far m)), .va (cD (cell far (m + 1))), .no, .no, .no, .no, .no, .no, .no, .no, .no, .no]) (fun N hN => ?_) (fun ρ' hρ => ?_)
  · walk_at "dl"
    refine .inr ⟨_, _, _, rfl, ?_⟩
    rw [tl1_in f2 la.1 la.2, place_cell far m (by omega)]
    walk_at "dl"
    refine .inr ⟨_, _, _, rfl, ?_⟩
    rw [tl1_in f2 lb.1 lb.2, place_cell far (m + 1) hm]
    walk_at "dl"
    rw [show (m : Int) + 1 = ((m + 1 : Nat) : Int) by omega]
    refine ⟨_, rfl, okA_lst (by simp) (okL_cons okA_i (okL_cons okA_i okL_nil)), ?_⟩
    walk_at "dl"
    refine ⟨cmx (by omega) (by omega), ?_⟩
    rw [f24, show ((4 ^ far : Nat) : Int) - 1 = ((4 ^ far - 1 : Nat) : Int) by omega]
    refine .inl ⟨_, _, rfl, ?_⟩
    rw [tl0_in f2 (by omega), cell_end]
    walk_at "dl"
    rw [show ((2 ^ far : Nat) : Int) - 1 = ((2 ^ far - 1 : Nat) : Int) by omega]
    refine ⟨shc (2 ^ far - 1, 0), shc (2 ^ far - 1, 0), ?_⟩
    rw [eqV' (shc (2 ^ far - 1, 0))]
    rotate_left
    · rfl
    · rfl
    walk_at "dl"
    refine .inl ⟨_, _, rfl, ?_⟩
    rw [show tl0 (far : Nat) 0 = cD (cell far 0) from tl0_in f2 g4, cell_0]
    walk_at "dl"
    refine ⟨shc (0, 0), shc (0, 0), ?_⟩
    rw [eqV' (shc (0, 0))]
    rotate_left
    · rfl
    · rfl
    walk_at "dl"
    exact hN _ rfl
  subst hρ
  refine sSeq_via (fun ρ' => ∃ (rs : List Int) (a b : Nat), (a < 2 ^ far ∧ b < 2 ^ far) ∧ ρ' = [.va (.fz (ns.map .int)), .ow (.lst (rs.map .int)), .va (.int (n : Nat)), .va (cL (cells n)), .va (.int ((2 ^ n : Nat) : Int)), .va (cD (a, b)), .va (.int (m : Nat)), .no, .va (.int (far : Nat)), .va (.int ((2 ^ far : Nat) : Int)), .va (cD (cell far m)), .va (cD (cell far (m + 1))), .no, .no, .no, .no, .no, .no, .no, .no, .no, .no]) (fun N hN => ?_) (fun ρ' hρ => ?_)
  · (walk_at "dl"; repeat (simp only [e12]; walk_at "dl"))
    refine ⟨cpow10 (by decide), _, _, rfl, rfl, by decide, fun r1 rs1 r10 r11 => ?_⟩
    obtain ⟨t1, rfl⟩ := nat_of r10
    (walk_at "dl"; repeat (simp only [e12]; walk_at "dl"))
    refine ⟨by omega, cpow10 (by decide), _, _, rfl, rfl, by decide, fun r2 rs2 r20 r21 => ?_⟩
    obtain ⟨t2, rfl⟩ := nat_of r20
    walk_at "dl"
    refine ⟨cmx (by omega) (by decide), by omega, ?_⟩
    rw [← Int.natCast_emod, show (t2 : Int) * 7 = ((t2 * 7 : Nat) : Int) by omega, ← Int.natCast_emod]
    exact hN _ ⟨rs2, t1 % 2 ^ far, t2 * 7 % 2 ^ far, ⟨Nat.mod_lt _ g2, Nat.mod_lt _ g2⟩, rfl⟩
  obtain ⟨rs, a, b, ⟨ha, hb⟩, rfl⟩ := hρ
  obtain ⟨cp, cpl⟩ := cell_place far a b ha hb
  refine sSeq_via (fun ρ' => ρ' = [.va (.fz (ns.map .int)), .ow (.lst (rs.map .int)), .va (.int (n : Nat)), .va (cL (cells n)), .va (.int ((2 ^ n : Nat) : Int)), .va (cD (a, b)), .va (.int (m : Nat)), .no, .va (.int (far : Nat)), .va (.int ((2 ^ far : Nat) : Int)), .va (cD (cell far m)), .va (cD (cell far (m + 1))), .no, .no, .no, .no, .no, .no, .no, .no, .no, .no]) (fun N hN => ?_) (fun ρ' hρ => ?_)
  · walk_at "dl"
    refine .inr ⟨_, _, _, rfl, ?_⟩
    rw [tl1_in f2 ha hb]
    walk_at "dl"
    refine .inl ⟨_, _, rfl, ?_⟩
    rw [tl0_in f2 cpl, cp]
    walk_at "dl"
    refine ⟨shc (a, b), shc (a, b), ?_⟩
    rw [eqV' (shc (a, b))]
    rotate_left
    · rfl
    · rfl
    walk_at "dl"
    exact hN _ rfl
  subst hρ
  refine sSeq_via (fun ρ' => ∃ (rs : List Int) (k : Nat), k ≤ far ∧ ρ' = [.va (.fz (ns.map .int)), .ow (.lst (rs.map .int)), .va (.int (n : Nat)), .va (cL (cells n)), .va (.int ((2 ^ n : Nat) : Int)), .va (cD (a, b)), .va (.int (m : Nat)), .va (.int (k : Nat)), .va (.int (far : Nat)), .va (.int ((2 ^ far : Nat) : Int)), .va (cD (cell far m)), .va (cD (cell far (m + 1))), .no, .no, .no, .no, .no, .no, .no, .no, .no, .no]) (fun N hN => ?_) (fun ρ' hρ => ?_)
  · walk_at "dl"
    refine ⟨_, _, rfl, rfl, by omega, fun r1 rs1 r10 r11 => ?_⟩
    obtain ⟨t1, rfl⟩ := nat_of r10
    walk_at "dl"
    exact hN _ ⟨rs1, t1, by omega, rfl⟩
  obtain ⟨rs, k, hk, rfl⟩ := hρ
  have k4 := p4 k
  have k2 := p2 k
  have k40 : 2 ^ k ≤ 2 ^ 40 := Nat.pow_le_pow_right (by decide) (by omega)
  have k40 : 2 ^ k ≤ 1099511627776 := k40
  have k24 : ((2 ^ k : Nat) : Int) * ((2 ^ k : Nat) : Int) = ((4 ^ k : Nat) : Int) := by
    rw [← Int.natCast_mul, ← Nat.mul_pow]
  refine sSeq_via (fun ρ' => ρ' = [.va (.fz (ns.map .int)), .ow (.lst (rs.map .int)), .va (.int (n : Nat)), .va (cL (cells n)), .va (.int ((2 ^ n : Nat) : Int)), .va (cD (a, b)), .va (.int (m : Nat)), .va (.int (k : Nat)), .va (.int (far : Nat)), .va (.int ((2 ^ far : Nat) : Int)), .va (cD (cell far m)), .va (cD (cell far (m + 1))), .va (.int ((4 ^ k : Nat) : Int)), .no, .no, .no, .no, .no, .no, .no, .no, .no]) (fun N hN => ?_) (fun ρ' hρ => ?_)
  · walk_at "dl"
    refine ⟨cshl (by decide) (by omega) (by omega), cshl (by decide) (by omega) (by omega), ?_⟩
    rw [sh1]
    refine ⟨cmx (by omega) (by omega), ?_⟩
    rw [k24]
    exact hN _ rfl
  subst hρ
  have b4k : Bt 81 (((4 ^ k : Nat) : Int)) := by
    show 4 ^ k < 2 ^ 81
    have : 4 ^ k ≤ 4 ^ 40 := Nat.pow_le_pow_right (by decide) (by omega)
    have e81 : (2 : Nat) ^ 81 = 2 * 4 ^ 40 := by decide
    omega
  have bm : Bt 81 (((m / 4 ^ k : Nat) : Int)) := by
    show m / 4 ^ k < 2 ^ 81
    have : 4 ^ far ≤ 4 ^ 40 := Nat.pow_le_pow_right (by decide) (by omega)
    have e81 : (2 : Nat) ^ 81 = 2 * 4 ^ 40 := by decide
    have : m / 4 ^ k ≤ m := Nat.div_le_self _ _
    omega
  refine sSeq_via (fun ρ' => ρ' = [.va (.fz (ns.map .int)), .ow (.lst (rs.map .int)), .va (.int (n : Nat)), .va (cL (cells n)), .va (.int ((2 ^ n : Nat) : Int)), .va (cD (a, b)), .va (.int (m : Nat)), .va (.int (k : Nat)), .va (.int (far : Nat)), .va (.int ((2 ^ far : Nat) : Int)), .va (cD (cell far m)), .va (cD (cell far (m + 1))), .va (.int ((4 ^ k : Nat) : Int)), .va (.int ((m / 4 ^ k * 4 ^ k : Nat) : Int)), .no, .no, .no, .no, .no, .no, .no, .no]) (fun N hN => ?_) (fun ρ' hρ => ?_)
  · walk_at "dl"
    rw [← Int.natCast_ediv]
    refine ⟨cdivw (by omega) b4k (by decide), cmulx bm b4k (by decide), ?_⟩
    rw [← Int.natCast_mul]
    exact hN _ rfl
  subst hρ
  have hin : ∀ r, r < 4 ^ k → m / 4 ^ k * 4 ^ k + r < 4 ^ far := fun r hr => by
    obtain ⟨j, rfl⟩ : ∃ j, far = k + j := ⟨far - k, by omega⟩
    rw [Nat.pow_add] at hm ⊢
    have h1 : m / 4 ^ k < 4 ^ j := Nat.div_lt_of_lt_mul (by omega)
    have h2 : (m / 4 ^ k + 1) * 4 ^ k ≤ 4 ^ j * 4 ^ k := Nat.mul_le_mul_right _ h1
    rw [Nat.add_mul, Nat.mul_comm (4 ^ j)] at h2
    omega
  refine sSeq_via (fun ρ' => ∃ (rs : List Int) (r : Nat), r < 4 ^ k ∧ ρ' = [.va (.fz (ns.map .int)), .ow (.lst (rs.map .int)), .va (.int (n : Nat)), .va (cL (cells n)), .va (.int ((2 ^ n : Nat) : Int)), .va (cD (a, b)), .va (.int (m : Nat)), .va (.int (k : Nat)), .va (.int (far : Nat)), .va (.int ((2 ^ far : Nat) : Int)), .va (cD (cell far m)), .va (cD (cell far (m + 1))), .va (.int ((4 ^ k : Nat) : Int)), .va (.int ((m / 4 ^ k * 4 ^ k : Nat) : Int)), .va (cD (cell far (m / 4 ^ k * 4 ^ k + r))), .no, .no, .no, .no, .no, .no, .no]) (fun N hN => ?_) (fun ρ' hρ => ?_)
  · walk_at "dl"
    refine ⟨_, _, rfl, rfl, by omega, fun r1 rs1 r10 r11 => ?_⟩
    obtain ⟨t1, rfl⟩ := nat_of r10
    have ht := hin t1 (by omega)
    walk_at "dl"
    refine .inl ⟨_, _, rfl, ?_⟩
    rw [← Int.natCast_add, tl0_in f2 ht]
    walk_at "dl"
    exact hN _ ⟨rs1, t1, by omega, rfl⟩
  obtain ⟨rs, r, hr, rfl⟩ := hρ
  have sr1 : ∀ z : Nat, (z : Int) / 2 ^ (k : Int).toNat = ((z / 2 ^ k : Nat) : Int) := fun z => by
    rw [Int.toNat_natCast, Int.natCast_ediv, Int.natCast_pow]
    rfl
  refine sSeq_via (fun ρ' => ρ' = [.va (.fz (ns.map .int)), .ow (.lst (rs.map .int)), .va (.int (n : Nat)), .va (cL (cells n)), .va (.int ((2 ^ n : Nat) : Int)), .va (cD (a, b)), .va (.int (m : Nat)), .va (.int (k : Nat)), .va (.int (far : Nat)), .va (.int ((2 ^ far : Nat) : Int)), .va (cD (cell far m)), .va (cD (cell far (m + 1))), .va (.int ((4 ^ k : Nat) : Int)), .va (.int ((m / 4 ^ k * 4 ^ k : Nat) : Int)), .va (cD (cell far (m / 4 ^ k * 4 ^ k + r))), .no, .no, .no, .no, .no, .no, .no]) (fun N hN => ?_) (fun ρ' hρ => ?_)
  · have blk : (m / 4 ^ k * 4 ^ k + r) / 4 ^ k = m / 4 ^ k := by
      rw [Nat.mul_comm, Nat.mul_add_div k4, Nat.div_eq_of_lt hr, Nat.add_zero]
    obtain ⟨j, hj⟩ : ∃ j, far = k + j := ⟨far - k, by omega⟩
    have cb := cell_block k _ _ blk j
    rw [← hj] at cb
    walk_at "dl"
    refine ⟨by omega, by omega, by omega, by omega, ?_⟩
    rw [sr1, sr1, sr1, sr1, cb.1, cb.2]
    refine ⟨shc ((cell far m).1 / 2 ^ k, (cell far m).2 / 2 ^ k), shc ((cell far m).1 / 2 ^ k, (cell far m).2 / 2 ^ k), ?_⟩
    rw [eqV' (shc ((cell far m).1 / 2 ^ k, (cell far m).2 / 2 ^ k))]
    rotate_left
    · rfl
    · rfl
    walk_at "dl"
    exact hN _ rfl
  subst hρ
  refine sSeq_via (fun ρ' => ρ' = [.va (.fz (ns.map .int)), .ow (.lst (rs.map .int)), .va (.int (n : Nat)), .va (cL (cells n)), .va (.int ((2 ^ n : Nat) : Int)), .va (cD (a, b)), .va (.int (m : Nat)), .va (.int (k : Nat)), .va (.int (far : Nat)), .va (.int ((2 ^ far : Nat) : Int)), .va (cD (cell far m)), .va (cD (cell far (m + 1))), .va (.int ((4 ^ k : Nat) : Int)), .va (.int ((m / 4 ^ k * 4 ^ k : Nat) : Int)), .va (cD (cell far (m / 4 ^ k * 4 ^ k + r))), .va (.int ((min n 4 : Nat) : Int)), .no, .no, .no, .no, .no, .no]) (fun N hN => ?_) (fun ρ' hρ => ?_)
  · walk_at "dl"
    have e : (if (4 : Int) < n then (4 : Int) else n) = ((min n 4 : Nat) : Int) := by split <;> omega
    (walk_at "dl"; repeat (simp only [e]; walk_at "dl"))
    exact hN _ rfl
  subst hρ
  have fw : min n 4 ≤ 4 := Nat.min_le_right _ _
  generalize min n 4 = w at *
  have e2 : (w : Int) + 2 = ((w + 2 : Nat) : Int) := by omega
  have w16 : 4 ^ 2 ≤ 4 ^ (w + 2) := Nat.pow_le_pow_right (by decide) (by omega)
  have w16 : 16 ≤ 4 ^ (w + 2) := w16
  refine sSeq_via (fun ρ' => ρ' = [.va (.fz (ns.map .int)), .ow (.lst (rs.map .int)), .va (.int (n : Nat)), .va (cL (cells n)), .va (.int ((2 ^ n : Nat) : Int)), .va (cD (a, b)), .va (.int (m : Nat)), .va (.int (k : Nat)), .va (.int (far : Nat)), .va (.int ((2 ^ far : Nat) : Int)), .va (cD (cell far m)), .va (cD (cell far (m + 1))), .va (.int ((4 ^ k : Nat) : Int)), .va (.int ((m / 4 ^ k * 4 ^ k : Nat) : Int)), .va (cD (cell far (m / 4 ^ k * 4 ^ k + r))), .va (.int (w : Nat)), .no, .no, .no, .no, .no, .no]) (fun N hN => ?_) (fun ρ' hρ => ?_)
  · walk_at "dl"
    split
    · walk_at "dl"
      refine ⟨by decide, by decide, ?_⟩
      refine ⟨rfl, fun j acc ρ => acc = (List.range j).map (fun i => cD (cell (w + 2) i)) ∧ ρ = [.va (.fz (ns.map .int)), .ow (.lst (rs.map .int)), .va (.int (n : Nat)), .va (cL (cells n)), .va (.int ((2 ^ n : Nat) : Int)), .va (cD (a, b)), .va (.int (m : Nat)), .va (.int (k : Nat)), .va (.int (far : Nat)), .va (.int ((2 ^ far : Nat) : Int)), .no, .va (cD (cell far (m + 1))), .va (.int ((4 ^ k : Nat) : Int)), .va (.int ((m / 4 ^ k * 4 ^ k : Nat) : Int)), .va (cD (cell far (m / 4 ^ k * 4 ^ k + r))), .va (.int (w : Nat)), .no, .no, .no, .no, .no, .no], ⟨rfl, rfl⟩, fun j d acc ρ hd hP => ?_, fun acc ρ hP => ?_⟩
      · obtain ⟨rfl, rfl⟩ := hP
        obtain ⟨hj, rfl⟩ := rng_get hd
        have hj : j < 4 := hj
        rw [Int.zero_add]
        walk_at "dl"
        refine .inl ⟨_, _, rfl, ?_⟩
        rw [e2, tl0_in (by omega) (by omega)]
        walk_at "dl"
        exact ⟨by rw [List.length_map, List.length_range, sizeLine_eq]; omega, by rw [List.range_succ, List.map_append]; rfl, rfl⟩
      obtain ⟨rfl, rfl⟩ := hP
      (walk_at "dl"; repeat (simp only [unwipe, Option.getD_some]; walk_at "dl"))
      refine ⟨by decide, by decide, ?_⟩
      refine ⟨rfl, fun j acc ρ => acc = (List.range j).map (fun i => cD (cell (w + 2) i)) ∧ ρ = [.va (.fz (ns.map .int)), .ow (.lst (rs.map .int)), .va (.int (n : Nat)), .va (cL (cells n)), .va (.int ((2 ^ n : Nat) : Int)), .va (cD (a, b)), .va (.int (m : Nat)), .va (.int (k : Nat)), .va (.int (far : Nat)), .va (.int ((2 ^ far : Nat) : Int)), .no, .va (cD (cell far (m + 1))), .va (.int ((4 ^ k : Nat) : Int)), .va (.int ((m / 4 ^ k * 4 ^ k : Nat) : Int)), .va (cD (cell far (m / 4 ^ k * 4 ^ k + r))), .va (.int (w : Nat)), .no, .no, .no, .no, .no, .no], ⟨rfl, rfl⟩, fun j d acc ρ hd hP => ?_, fun acc ρ hP => ?_⟩
      · obtain ⟨rfl, rfl⟩ := hP
        obtain ⟨hj, rfl⟩ := rng_get hd
        have hj : j < 4 := hj
        rw [Int.zero_add]
        walk_at "dl"
        rw [e2]
        refine ⟨w + 2, rfl, by omega, ?_⟩
        have ix : atI ((cells (w + 2)).map cD) (j : Int) = some (cD (cell (w + 2) j)) := atI_at rfl (by rw [List.getElem?_map, cells_get (by omega)]; rfl)
        (walk_at "dl"; repeat (simp only [ix]; walk_at "dl"))
        exact ⟨by rw [List.length_map, List.length_range, sizeLine_eq]; omega, by rw [List.range_succ, List.map_append]; rfl, rfl⟩
      obtain ⟨rfl, rfl⟩ := hP
      (walk_at "dl"; repeat (simp only [unwipe, Option.getD_some]; walk_at "dl"))
      have sh4 : shD (.lst ((List.range (rngD 0 (Int.toNat 4)).length).map fun i => cD (cell (w + 2) i))) := shA (n := 2) (okA_lst (by simp [rng_len]) fun u hu => by
        obtain ⟨i, _, rfl⟩ := List.mem_map.mp hu
        exact cD_ok _) (by decide)
      refine ⟨sh4, sh4, ?_⟩
      rw [eqD_self sh4]
      walk_at "dl"
      exact hN _ rfl
    · walk_at "dl"
      exact hN _ rfl
  subst hρ
  have out1 : ∀ z : Int, ¬ InO z → ∀ y, tl0 z y = .str "range" := fun z hz y => if_neg hz
  have out2 : ∀ z : Int, ¬ InO z → ∀ y v, tl1 z y v = .str "range" := fun z hz y v => if_neg hz
  have inn : InO (n : Nat) := ⟨by omega, by omega⟩
  have n4 : ((4 : Int) ^ ((n : Nat) : Int).toNat) = ((4 ^ n : Nat) : Int) := by rw [Int.toNat_natCast, Int.natCast_pow]; rfl
  have n2 : ((2 : Int) ^ ((n : Nat) : Int).toNat) = ((2 ^ n : Nat) : Int) := by rw [Int.toNat_natCast, Int.natCast_pow]; rfl
  have gone1 : ∀ y : Int, ¬ (0 ≤ y ∧ y < ((4 ^ n : Nat) : Int)) → tl0 (n : Nat) y = .str "none" := fun y hy => by
    unfold tl0
    rw [if_pos inn, n4, if_neg hy]
  have gone2 : ∀ y v : Int, ¬ ((0 ≤ y ∧ y < ((2 ^ n : Nat) : Int)) ∧ 0 ≤ v ∧ v < ((2 ^ n : Nat) : Int)) → tl1 (n : Nat) y v = .str "none" := fun y v hy => by
    unfold tl1
    rw [if_pos inn, n2, if_neg hy]
  let tb : D → D := fun d => match d with
    | .tup [.int 0, .int z, .int y] => tl0 z y
    | .tup [.int 1, .int z, .tup [.int y, .int v]] => tl1 z y v
    | _ => .non
  refine sSeq_via (fun ρ' => ρ' = [.va (.fz (ns.map .int)), .ow (.lst (rs.map .int)), .va (.int (n : Nat)), .va (cL (cells n)), .va (.int ((2 ^ n : Nat) : Int)), .va (cD (a, b)), .va (.int (m : Nat)), .va (.int (k : Nat)), .va (.int (far : Nat)), .va (.int ((2 ^ far : Nat) : Int)), .va (cD (cell far m)), .va (cD (cell far (m + 1))), .va (.int ((4 ^ k : Nat) : Int)), .va (.int ((m / 4 ^ k * 4 ^ k : Nat) : Int)), .va (cD (cell far (m / 4 ^ k * 4 ^ k + r))), .va (.int (w : Nat)), .ow (.lst [.tup [.int 0, .int (-1), .int 0], .tup [.int 0, .int 41, .int 0], .tup [.int 1, .int (-1), .tup [.int 0, .int 0]], .tup [.int 1, .int 41, .tup [.int 0, .int 0]]]), .no, .no, .no, .no, .no]) (fun N hN => ?_) (fun ρ' hρ => ?_)
  · walk_at "dl"
    exact hN _ rfl
  subst hρ
  refine sSeq_via (fun ρ' => ρ' = [.va (.fz (ns.map .int)), .ow (.lst (rs.map .int)), .va (.int (n : Nat)), .va (cL (cells n)), .va (.int ((2 ^ n : Nat) : Int)), .va (cD (a, b)), .va (.int (m : Nat)), .va (.int (k : Nat)), .va (.int (far : Nat)), .va (.int ((2 ^ far : Nat) : Int)), .va (cD (cell far m)), .va (cD (cell far (m + 1))), .va (.int ((4 ^ k : Nat) : Int)), .va (.int ((m / 4 ^ k * 4 ^ k : Nat) : Int)), .va (cD (cell far (m / 4 ^ k * 4 ^ k + r))), .va (.int (w : Nat)), .ow (.lst [.tup [.int 0, .int (-1), .int 0], .tup [.int 0, .int 41, .int 0], .tup [.int 1, .int (-1), .tup [.int 0, .int 0]], .tup [.int 1, .int 41, .tup [.int 0, .int 0]]]), .ow (.lst [.tup [.int 0, .int (n : Nat), .int ((4 ^ n : Nat) : Int)], .tup [.int 0, .int (n : Nat), .int (-1)], .tup [.int 1, .int (n : Nat), .tup [.int ((2 ^ n : Nat) : Int), .int 0]], .tup [.int 1, .int (n : Nat), .tup [.int 0, .int ((2 ^ n : Nat) : Int)]], .tup [.int 1, .int (n : Nat), .tup [.int (-1), .int 0]], .tup [.int 1, .int (n : Nat), .tup [.int 0, .int (-1)]]]), .no, .no, .no, .no]) (fun N hN => ?_) (fun ρ' hρ => ?_)
  · walk_at "dl"
    refine ⟨cmx (by omega) (by omega), ?_⟩
    rw [e24]
    exact hN _ rfl
  subst hρ
  walk_at "dl"
  have bl0 : ∀ (j : Nat) (d : D), ([D.tup [D.int 0, D.int (-1), D.int 0], D.tup [D.int 0, D.int 41, D.int 0], D.tup [D.int 1, D.int (-1), D.tup [D.int 0, D.int 0]], D.tup [D.int 1, D.int 41, D.tup [D.int 0, D.int 0]]] : List D)[j]? = some d →
      (∃ z y : Int, d = .tup [.int 0, .int z, .int y] ∧ ¬ InO z) ∨ ∃ z y v : Int, d = .tup [.int 1, .int z, .tup [.int y, .int v]] ∧ ¬ InO z := fun j d hd => by
    have := List.mem_of_getElem? hd
    simp only [List.mem_cons, List.not_mem_nil, or_false] at this
    rcases this with rfl | rfl | rfl | rfl
    · exact .inl ⟨-1, 0, rfl, by decide⟩
    · exact .inl ⟨41, 0, rfl, by decide⟩
    · exact .inr ⟨-1, 0, 0, rfl, by decide⟩
    · exact .inr ⟨41, 0, 0, rfl, by decide⟩
  refine ⟨rfl, fun j acc ρ => acc = List.replicate j (.str "range") ∧ ρ = [.va (.fz (ns.map .int)), .ow (.lst (rs.map .int)), .va (.int (n : Nat)), .va (cL (cells n)), .va (.int ((2 ^ n : Nat) : Int)), .va (cD (a, b)), .va (.int (m : Nat)), .va (.int (k : Nat)), .va (.int (far : Nat)), .va (.int ((2 ^ far : Nat) : Int)), .va (cD (cell far m)), .va (cD (cell far (m + 1))), .va (.int ((4 ^ k : Nat) : Int)), .va (.int ((m / 4 ^ k * 4 ^ k : Nat) : Int)), .va (cD (cell far (m / 4 ^ k * 4 ^ k + r))), .va (.int (w : Nat)), .va (.lst [.tup [.int 0, .int (-1), .int 0], .tup [.int 0, .int 41, .int 0], .tup [.int 1, .int (-1), .tup [.int 0, .int 0]], .tup [.int 1, .int 41, .tup [.int 0, .int 0]]]), .ow (.lst [.tup [.int 0, .int (n : Nat), .int ((4 ^ n : Nat) : Int)], .tup [.int 0, .int (n : Nat), .int (-1)], .tup [.int 1, .int (n : Nat), .tup [.int ((2 ^ n : Nat) : Int), .int 0]], .tup [.int 1, .int (n : Nat), .tup [.int 0, .int ((2 ^ n : Nat) : Int)]], .tup [.int 1, .int (n : Nat), .tup [.int (-1), .int 0]], .tup [.int 1, .int (n : Nat), .tup [.int 0, .int (-1)]]]), .no, .no, .no, .no], ⟨rfl, rfl⟩, fun j d acc ρ hd hP => ?_, fun acc ρ hP => ?_⟩
  · obtain ⟨rfl, rfl⟩ := hP
    have hj : j < 4 := (List.getElem?_eq_some_iff.mp hd).1
    have sz : (List.replicate j (D.str "range")).length < sizeLine := by rw [List.length_replicate, sizeLine_eq]; omega
    rcases bl0 j d hd with ⟨z, y, rfl, hz⟩ | ⟨z, y, v, rfl, hz⟩
    · walk_at "dl"
      refine .inl ⟨_, _, rfl, ?_⟩
      rw [out1 _ hz]
      walk_at "dl"
      exact ⟨sz, (List.replicate_succ' ..).symm, rfl⟩
    · walk_at "dl"
      refine .inr ⟨_, _, _, rfl, ?_⟩
      rw [out2 _ hz]
      walk_at "dl"
      exact ⟨sz, (List.replicate_succ' ..).symm, rfl⟩
  obtain ⟨rfl, rfl⟩ := hP
  (walk_at "dl"; repeat (simp only [unwipe, Option.getD_some]; walk_at "dl"))
  refine ⟨by decide, by decide, by decide, ?_⟩
  have s4 : shD (.lst (List.replicate 4 (.str "range"))) := shA (n := 1) (okA_lst (by decide) fun u hu => by rw [List.eq_of_mem_replicate hu]; exact okA_s (show SeqAt.shaped _ = true by decide +kernel)) (by decide)
  refine ⟨s4, s4, ?_⟩
  rw [eqV' s4]
  rotate_left
  · rfl
  · rfl
  walk_at "dl"
  have gl0 : ∀ (j : Nat) (d : D), ([D.tup [.int 0, .int (n : Nat), .int ((4 ^ n : Nat) : Int)], .tup [.int 0, .int (n : Nat), .int (-1)], .tup [.int 1, .int (n : Nat), .tup [.int ((2 ^ n : Nat) : Int), .int 0]], .tup [.int 1, .int (n : Nat), .tup [.int 0, .int ((2 ^ n : Nat) : Int)]], .tup [.int 1, .int (n : Nat), .tup [.int (-1), .int 0]], .tup [.int 1, .int (n : Nat), .tup [.int 0, .int (-1)]]] : List D)[j]? = some d →
      (∃ y : Int, d = .tup [.int 0, .int (n : Nat), .int y] ∧ ¬ (0 ≤ y ∧ y < ((4 ^ n : Nat) : Int))) ∨ ∃ y v : Int, d = .tup [.int 1, .int (n : Nat), .tup [.int y, .int v]] ∧ ¬ ((0 ≤ y ∧ y < ((2 ^ n : Nat) : Int)) ∧ 0 ≤ v ∧ v < ((2 ^ n : Nat) : Int)) := fun j d hd => by
    have := List.mem_of_getElem? hd
    simp only [List.mem_cons, List.not_mem_nil, or_false] at this
    rcases this with rfl | rfl | rfl | rfl | rfl | rfl
    · exact .inl ⟨((4 ^ n : Nat) : Int), rfl, by omega⟩
    · exact .inl ⟨-1, rfl, by omega⟩
    · exact .inr ⟨((2 ^ n : Nat) : Int), 0, rfl, by omega⟩
    · exact .inr ⟨0, ((2 ^ n : Nat) : Int), rfl, by omega⟩
    · exact .inr ⟨-1, 0, rfl, by omega⟩
    · exact .inr ⟨0, -1, rfl, by omega⟩
  refine ⟨rfl, fun j acc ρ => acc = List.replicate j (.str "none") ∧ ρ = [.va (.fz (ns.map .int)), .ow (.lst (rs.map .int)), .va (.int (n : Nat)), .va (cL (cells n)), .va (.int ((2 ^ n : Nat) : Int)), .va (cD (a, b)), .va (.int (m : Nat)), .va (.int (k : Nat)), .va (.int (far : Nat)), .va (.int ((2 ^ far : Nat) : Int)), .va (cD (cell far m)), .va (cD (cell far (m + 1))), .va (.int ((4 ^ k : Nat) : Int)), .va (.int ((m / 4 ^ k * 4 ^ k : Nat) : Int)), .va (cD (cell far (m / 4 ^ k * 4 ^ k + r))), .va (.int (w : Nat)), .va (.lst [.tup [.int 0, .int (-1), .int 0], .tup [.int 0, .int 41, .int 0], .tup [.int 1, .int (-1), .tup [.int 0, .int 0]], .tup [.int 1, .int 41, .tup [.int 0, .int 0]]]), .va (.lst [.tup [.int 0, .int (n : Nat), .int ((4 ^ n : Nat) : Int)], .tup [.int 0, .int (n : Nat), .int (-1)], .tup [.int 1, .int (n : Nat), .tup [.int ((2 ^ n : Nat) : Int), .int 0]], .tup [.int 1, .int (n : Nat), .tup [.int 0, .int ((2 ^ n : Nat) : Int)]], .tup [.int 1, .int (n : Nat), .tup [.int (-1), .int 0]], .tup [.int 1, .int (n : Nat), .tup [.int 0, .int (-1)]]]), .no, .no, .no, .no], ⟨rfl, rfl⟩, fun j d acc ρ hd hP => ?_, fun acc ρ hP => ?_⟩
  · obtain ⟨rfl, rfl⟩ := hP
    have hj : j < 6 := (List.getElem?_eq_some_iff.mp hd).1
    have sz : (List.replicate j (D.str "none")).length < sizeLine := by rw [List.length_replicate, sizeLine_eq]; omega
    rcases gl0 j d hd with ⟨y, rfl, hz⟩ | ⟨y, v, rfl, hz⟩
    · walk_at "dl"
      refine .inl ⟨_, _, rfl, ?_⟩
      rw [gone1 _ hz]
      walk_at "dl"
      exact ⟨sz, (List.replicate_succ' ..).symm, rfl⟩
    · walk_at "dl"
      refine .inr ⟨_, _, _, rfl, ?_⟩
      rw [gone2 _ _ hz]
      walk_at "dl"
      exact ⟨sz, (List.replicate_succ' ..).symm, rfl⟩
  obtain ⟨rfl, rfl⟩ := hP
  (walk_at "dl"; repeat (simp only [unwipe, Option.getD_some]; walk_at "dl"))
  refine ⟨by decide, by decide, by decide, ?_⟩
  have s6 : shD (.lst (List.replicate 6 (.str "none"))) := shA (n := 1) (okA_lst (by decide) fun u hu => by rw [List.eq_of_mem_replicate hu]; exact okA_s (show SeqAt.shaped _ = true by decide +kernel)) (by decide)
  refine ⟨s6, s6, ?_⟩
  rw [eqV' s6]
  rotate_left
  · rfl
  · rfl
  exact h
end K91

set_option Elab.async false
set_option linter.all false
set_option maxRecDepth 100000
set_option maxHeartbeats 4000000
namespace K91
open PySem PySem.Spec PyProof.Rows L2 DL LW
theorem chain {P : Program} {w : World} {K : PySem.W.Frag} {mg : Str → Option Value} {base : Heap} {T : Addr → Prop} {C_KiteError C_OutOfRange C_NotThere : Addr} (Z : Top K mg C_KiteError C_OutOfRange C_NotThere)
    {f_is_number : Addr} {fd_is_number : FuncData} (F_is_number : Fun K "is_number" "is_number" s_is_number f_is_number fd_is_number) (m_is_number : mg "is_number" = some (.ref f_is_number))
    {f_see_order : Addr} {fd_see_order : FuncData} (F_see_order : Fun K "see_order" "see_order" s_see_order f_see_order fd_see_order) (m_see_order : mg "see_order" = some (.ref f_see_order))
    {f_cell_on_path : Addr} {fd_cell_on_path : FuncData} (F_cell_on_path : Fun K "cell_on_path" "cell_on_path" s_cell_on_path f_cell_on_path fd_cell_on_path) (m_cell_on_path : mg "cell_on_path" = some (.ref f_cell_on_path))
    {f_place_on_path : Addr} {fd_place_on_path : FuncData} (F_place_on_path : Fun K "place_on_path" "place_on_path" s_place_on_path f_place_on_path fd_place_on_path) (m_place_on_path : mg "place_on_path" = some (.ref f_place_on_path))
    {f__law_draws : Addr} {fd__law_draws : FuncData} (F__law_draws : Fun K "_law_draws" "_law_draws" s__law_draws f__law_draws fd__law_draws) (m__law_draws : mg "_law_draws" = some (.ref f__law_draws))
    {f__law_take : Addr} {fd__law_take : FuncData} (F__law_take : Fun K "_law_take" "_law_take" s__law_take f__law_take fd__law_take) (m__law_take : mg "_law_take" = some (.ref f__law_take))
    {f__law_same : Addr} {fd__law_same : FuncData} (F__law_same : Fun K "_law_same" "_law_same" s__law_same f__law_same fd__law_same) (m__law_same : mg "_law_same" = some (.ref f__law_same))
    {f__law_told : Addr} {fd__law_told : FuncData} (F__law_told : Fun K "_law_told" "_law_told" s__law_told f__law_told fd__law_told) (m__law_told : mg "_law_told" = some (.ref f__law_told))
    {f__law_path : Addr} {fd__law_path : FuncData} (F__law_path : Fun K "_law_path" "_law_path" s__law_path f__law_path fd__law_path) (m__law_path : mg "_law_path" = some (.ref f__law_path))
    {f_law : Addr} {fd_law : FuncData} (F_law : Fun K "law" "law" s_law f_law fd_law) (m_law : mg "law" = some (.ref f_law))
    (X_OutOfRange : ExcC K C_OutOfRange) (k_OutOfRange_OutOfRange : PySem.W.kitOne K (.ref C_OutOfRange) (.ref C_OutOfRange) = some true) (k_OutOfRange_NotThere : PySem.W.kitOne K (.ref C_OutOfRange) (.ref C_NotThere) = some false) (e_OutOfRange : PySem.W.exmOne K (.ref C_OutOfRange) (.ref C_KiteError) = some true)
    (X_NotThere : ExcC K C_NotThere) (k_NotThere_OutOfRange : PySem.W.kitOne K (.ref C_NotThere) (.ref C_OutOfRange) = some false) (k_NotThere_NotThere : PySem.W.kitOne K (.ref C_NotThere) (.ref C_NotThere) = some true) (e_NotThere : PySem.W.exmOne K (.ref C_NotThere) (.ref C_KiteError) = some true)
    : FnOk P w K mg base (L2N.CX P w) 5 f_law fd_law ["script"] (liftSp K T sp_law) := by
  have b_is_number : Binds K fd_is_number p_is_number [] := F_is_number.binds (ps := p_is_number) fun _ _ _ _ _ _ us hl => match us, hl with | [_, _, _], _ => rfl
  have b_see_order : Binds K fd_see_order p_see_order [] := F_see_order.binds (ps := p_see_order) fun _ _ _ _ _ _ us hl => match us, hl with | [_], _ => rfl
  have b_cell_on_path : Binds K fd_cell_on_path p_cell_on_path [] := F_cell_on_path.binds (ps := p_cell_on_path) fun _ _ _ _ _ _ us hl => match us, hl with | [_, _], _ => rfl
  have b_place_on_path : Binds K fd_place_on_path p_place_on_path [] := F_place_on_path.binds (ps := p_place_on_path) fun _ _ _ _ _ _ us hl => match us, hl with | [_, _], _ => rfl
  have b__law_draws : Binds K fd__law_draws p__law_draws [] := F__law_draws.binds (ps := p__law_draws) fun _ _ _ _ _ _ us hl => match us, hl with | [_], _ => rfl
  have b__law_take : Binds K fd__law_take p__law_take [] := F__law_take.binds (ps := p__law_take) fun _ _ _ _ _ _ us hl => match us, hl with | [_, _], _ => rfl
  have b__law_same : Binds K fd__law_same p__law_same [] := F__law_same.binds (ps := p__law_same) fun _ _ _ _ _ _ us hl => match us, hl with | [_, _], _ => rfl
  have b__law_told : Binds K fd__law_told p__law_told [] := F__law_told.binds (ps := p__law_told) fun _ _ _ _ _ _ us hl => match us, hl with | [_, _, _], _ => rfl
  have b__law_path : Binds K fd__law_path p__law_path [] := F__law_path.binds (ps := p__law_path) fun _ _ _ _ _ _ us hl => match us, hl with | [_], _ => rfl
  have b_law : Binds K fd_law p_law [] := F_law.binds (ps := p_law) fun _ _ _ _ _ _ us hl => match us, hl with | [_], _ => rfl
  let wd : Addr → Option Str := fun D => if D = C_OutOfRange then some (Str.ofString "range") else if D = C_NotThere then some (Str.ofString "none") else none
  have hw : Tell2 K C_KiteError C_OutOfRange C_NotThere ["other", "range", "none"] wd := by
    refine ⟨fun D z h => ?_, fun D z h => ?_⟩
    · have h : (if D = C_OutOfRange then some (Str.ofString "range") else if D = C_NotThere then some (Str.ofString "none") else none) = some z := h
      by_cases g0 : D = C_OutOfRange
      · have hz : some (Str.ofString "range") = some z := (if_pos g0).symm.trans h
        have hz := Option.some.inj hz
        clear h
        subst hz
        subst g0
        exact e_OutOfRange
      rw [if_neg g0] at h
      by_cases g1 : D = C_NotThere
      · have hz : some (Str.ofString "none") = some z := (if_pos g1).symm.trans h
        have hz := Option.some.inj hz
        clear h
        subst hz
        subst g1
        exact e_NotThere
      rw [if_neg g1] at h
      cases h
    · have h : (if D = C_OutOfRange then some (Str.ofString "range") else if D = C_NotThere then some (Str.ofString "none") else none) = some z := h
      by_cases g0 : D = C_OutOfRange
      · have hz : some (Str.ofString "range") = some z := (if_pos g0).symm.trans h
        have hz := Option.some.inj hz
        clear h
        subst hz
        subst g0
        exact ⟨_, _, X_OutOfRange, k_OutOfRange_OutOfRange, k_OutOfRange_NotThere, rfl⟩
      rw [if_neg g0] at h
      by_cases g1 : D = C_NotThere
      · have hz : some (Str.ofString "none") = some z := (if_pos g1).symm.trans h
        have hz := Option.some.inj hz
        clear h
        subst hz
        subst g1
        exact ⟨_, _, X_NotThere, k_NotThere_OutOfRange, k_NotThere_NotThere, rfl⟩
      rw [if_neg g1] at h
      cases h
  have w_OutOfRange : wd C_OutOfRange = some (Str.ofString "range") := if_pos rfl
  have n_OutOfRange_NotThere : C_NotThere ≠ C_OutOfRange := fun h => by
    have a := k_NotThere_OutOfRange
    rw [h, k_OutOfRange_OutOfRange] at a
    cases a
  have w_NotThere : wd C_NotThere = some (Str.ofString "none") := (if_neg n_OutOfRange_NotThere).trans (if_pos rfl)
  have c_is_number := ok_is_number (k := 0) (base := base) (P := P) (w := w) (T := T) Z F_is_number m_is_number b_is_number (sp := sp_is_number) (fun ds q x h => by obtain ⟨_, _, _, rfl, _⟩ := h; rfl) (is_number_ok)
  have c_see_order := ok_see_order (k := 1) (base := base) (P := P) (w := w) (T := T) Z (c_is_number.mono (by decide)) F_see_order m_see_order b_see_order (sp := (sp_see C_OutOfRange)) (fun ds q x h => by obtain ⟨_, rfl, _⟩ := h; rfl) (see_ok)
  have c_cell_on_path := ok_cell_on_path (k := 2) (base := base) (P := P) (w := w) (T := T) Z (c_see_order.mono (by decide)) (c_is_number.mono (by decide)) F_cell_on_path m_cell_on_path b_cell_on_path (sp := (sp_cell C_OutOfRange C_NotThere)) (fun ds q x h => by obtain ⟨_, _, rfl, _⟩ := h; rfl) (cell_ok)
  have c_place_on_path := ok_place_on_path (k := 2) (base := base) (P := P) (w := w) (T := T) Z (c_see_order.mono (by decide)) (c_is_number.mono (by decide)) F_place_on_path m_place_on_path b_place_on_path (sp := (sp_place C_OutOfRange C_NotThere)) (fun ds q x h => by obtain ⟨_, _, _, rfl, _⟩ := h; rfl) (place_ok)
  have c__law_draws := ok__law_draws (k := 0) (base := base) (P := P) (w := w) (T := T) Z F__law_draws m__law_draws b__law_draws (sp := sp_draws) (fun ds q x h => by obtain ⟨_, rfl, _⟩ := h; rfl) (draws_ok)
  have c__law_take := ok__law_take (k := 0) (base := base) (P := P) (w := w) (T := T) Z F__law_take m__law_take b__law_take (sp := sp_take) (fun d ds q x h => by obtain ⟨_, _, rfl, rfl, _⟩ := h; rfl) (take_ok)
  have c_same0 := ok__law_same (k := 0) (base := base) (P := P) (w := w) (T := T) Z (CallD.bot m__law_same F__law_same.kp b__law_same) F__law_same m__law_same b__law_same (sp := LW.sp_alikeN 0) (fun ds q x h => by obtain ⟨_, rfl, _⟩ := h; rfl) (LW.same0_ok _)
  have c_same1 := ok__law_same (k := 1) (base := base) (P := P) (w := w) (T := T) Z c_same0 F__law_same m__law_same b__law_same (sp := LW.sp_alikeN 1) (fun ds q x h => by obtain ⟨_, rfl, _⟩ := h; rfl) (LW.sameN_ok 0 1 (by decide))
  have c__law_same := ok__law_same (k := 2) (base := base) (P := P) (w := w) (T := T) Z c_same1 F__law_same m__law_same b__law_same (sp := LW.sp_alikeN 2) (fun ds q x h => by obtain ⟨_, rfl, _⟩ := h; rfl) (LW.sameN_ok 1 2 (by decide))
  have c__law_told := ok__law_told (k := 3) (base := base) (P := P) (w := w) (T := T) Z (c_cell_on_path.mono (by decide)) (c_place_on_path.mono (by decide)) hw F__law_told m__law_told b__law_told (sp := sp_told) (fun ds q x h => by rcases h with ⟨_, _, rfl, _⟩ | ⟨_, _, _, rfl, _⟩ <;> rfl) (told_ok w_OutOfRange w_NotThere)
  have c__law_path := ok__law_path (k := 0) (base := base) (P := P) (w := w) (T := T) Z F__law_path m__law_path b__law_path (sp := sp_path) (fun ds q x h => by obtain ⟨_, rfl, _⟩ := h; rfl) (path_ok)
  exact fn_ok (k := 4) F_law sc_law (fun ds q x h => by obtain ⟨_, rfl, _⟩ := h; rfl) (fun cdv A outer s H E hr => d_law Z (c__law_draws.mono (by decide)) (c__law_take.mono (by decide)) (c__law_path.mono (by decide)) (c__law_same.mono (by decide)) (c__law_told.mono (by decide)) cdv A outer s H E hr) (law_ok)
theorem ends {l : PySem.W.OpenLaw} {q : Program} {w : World} {K : PySem.W.Frag} {h : Heap} {mg : Str → Option Value} {fa : Addr} {C_KiteError C_OutOfRange C_NotThere : Addr} (X : K.In h) (G : h.Ns mainGlobals mg) (hfa : mg "law" = some (.ref fa)) (HT : HeadTabs q K h)
    {f_is_number : Addr} {od_is_number an_is_number : Option Addr} {sl_is_number : Array (Option Value)} {oc_is_number kV_is_number dc_is_number pm_is_number cd_is_number ct_is_number : Value}
    (a_is_number : PySem.W.nsIn K mainGlobals "is_number" = some (some (.ref f_is_number))) (l_is_number : K.lookup f_is_number = some ⟨oc_is_number, od_is_number, .func (PySem.W.fnOf "is_number" "is_number" (defArgs s_is_number) (defBody s_is_number) (defScope s_is_number) .none kV_is_number dc_is_number pm_is_number an_is_number cd_is_number ct_is_number), sl_is_number⟩) (u_is_number : PySem.W.codeIn K cd_is_number "is_number" = true) (v_is_number : PySem.W.keepIn K (.ref f_is_number) = true)
    {f_see_order : Addr} {od_see_order an_see_order : Option Addr} {sl_see_order : Array (Option Value)} {oc_see_order kV_see_order dc_see_order pm_see_order cd_see_order ct_see_order : Value}
    (a_see_order : PySem.W.nsIn K mainGlobals "see_order" = some (some (.ref f_see_order))) (l_see_order : K.lookup f_see_order = some ⟨oc_see_order, od_see_order, .func (PySem.W.fnOf "see_order" "see_order" (defArgs s_see_order) (defBody s_see_order) (defScope s_see_order) .none kV_see_order dc_see_order pm_see_order an_see_order cd_see_order ct_see_order), sl_see_order⟩) (u_see_order : PySem.W.codeIn K cd_see_order "see_order" = true) (v_see_order : PySem.W.keepIn K (.ref f_see_order) = true)
    {f_cell_on_path : Addr} {od_cell_on_path an_cell_on_path : Option Addr} {sl_cell_on_path : Array (Option Value)} {oc_cell_on_path kV_cell_on_path dc_cell_on_path pm_cell_on_path cd_cell_on_path ct_cell_on_path : Value}
    (a_cell_on_path : PySem.W.nsIn K mainGlobals "cell_on_path" = some (some (.ref f_cell_on_path))) (l_cell_on_path : K.lookup f_cell_on_path = some ⟨oc_cell_on_path, od_cell_on_path, .func (PySem.W.fnOf "cell_on_path" "cell_on_path" (defArgs s_cell_on_path) (defBody s_cell_on_path) (defScope s_cell_on_path) .none kV_cell_on_path dc_cell_on_path pm_cell_on_path an_cell_on_path cd_cell_on_path ct_cell_on_path), sl_cell_on_path⟩) (u_cell_on_path : PySem.W.codeIn K cd_cell_on_path "cell_on_path" = true) (v_cell_on_path : PySem.W.keepIn K (.ref f_cell_on_path) = true)
    {f_place_on_path : Addr} {od_place_on_path an_place_on_path : Option Addr} {sl_place_on_path : Array (Option Value)} {oc_place_on_path kV_place_on_path dc_place_on_path pm_place_on_path cd_place_on_path ct_place_on_path : Value}
    (a_place_on_path : PySem.W.nsIn K mainGlobals "place_on_path" = some (some (.ref f_place_on_path))) (l_place_on_path : K.lookup f_place_on_path = some ⟨oc_place_on_path, od_place_on_path, .func (PySem.W.fnOf "place_on_path" "place_on_path" (defArgs s_place_on_path) (defBody s_place_on_path) (defScope s_place_on_path) .none kV_place_on_path dc_place_on_path pm_place_on_path an_place_on_path cd_place_on_path ct_place_on_path), sl_place_on_path⟩) (u_place_on_path : PySem.W.codeIn K cd_place_on_path "place_on_path" = true) (v_place_on_path : PySem.W.keepIn K (.ref f_place_on_path) = true)
    {f__law_draws : Addr} {od__law_draws an__law_draws : Option Addr} {sl__law_draws : Array (Option Value)} {oc__law_draws kV__law_draws dc__law_draws pm__law_draws cd__law_draws ct__law_draws : Value}
    (a__law_draws : PySem.W.nsIn K mainGlobals "_law_draws" = some (some (.ref f__law_draws))) (l__law_draws : K.lookup f__law_draws = some ⟨oc__law_draws, od__law_draws, .func (PySem.W.fnOf "_law_draws" "_law_draws" (defArgs s__law_draws) (defBody s__law_draws) (defScope s__law_draws) .none kV__law_draws dc__law_draws pm__law_draws an__law_draws cd__law_draws ct__law_draws), sl__law_draws⟩) (u__law_draws : PySem.W.codeIn K cd__law_draws "_law_draws" = true) (v__law_draws : PySem.W.keepIn K (.ref f__law_draws) = true)
    {f__law_take : Addr} {od__law_take an__law_take : Option Addr} {sl__law_take : Array (Option Value)} {oc__law_take kV__law_take dc__law_take pm__law_take cd__law_take ct__law_take : Value}
    (a__law_take : PySem.W.nsIn K mainGlobals "_law_take" = some (some (.ref f__law_take))) (l__law_take : K.lookup f__law_take = some ⟨oc__law_take, od__law_take, .func (PySem.W.fnOf "_law_take" "_law_take" (defArgs s__law_take) (defBody s__law_take) (defScope s__law_take) .none kV__law_take dc__law_take pm__law_take an__law_take cd__law_take ct__law_take), sl__law_take⟩) (u__law_take : PySem.W.codeIn K cd__law_take "_law_take" = true) (v__law_take : PySem.W.keepIn K (.ref f__law_take) = true)
    {f__law_same : Addr} {od__law_same an__law_same : Option Addr} {sl__law_same : Array (Option Value)} {oc__law_same kV__law_same dc__law_same pm__law_same cd__law_same ct__law_same : Value}
    (a__law_same : PySem.W.nsIn K mainGlobals "_law_same" = some (some (.ref f__law_same))) (l__law_same : K.lookup f__law_same = some ⟨oc__law_same, od__law_same, .func (PySem.W.fnOf "_law_same" "_law_same" (defArgs s__law_same) (defBody s__law_same) (defScope s__law_same) .none kV__law_same dc__law_same pm__law_same an__law_same cd__law_same ct__law_same), sl__law_same⟩) (u__law_same : PySem.W.codeIn K cd__law_same "_law_same" = true) (v__law_same : PySem.W.keepIn K (.ref f__law_same) = true)
    {f__law_told : Addr} {od__law_told an__law_told : Option Addr} {sl__law_told : Array (Option Value)} {oc__law_told kV__law_told dc__law_told pm__law_told cd__law_told ct__law_told : Value}
    (a__law_told : PySem.W.nsIn K mainGlobals "_law_told" = some (some (.ref f__law_told))) (l__law_told : K.lookup f__law_told = some ⟨oc__law_told, od__law_told, .func (PySem.W.fnOf "_law_told" "_law_told" (defArgs s__law_told) (defBody s__law_told) (defScope s__law_told) .none kV__law_told dc__law_told pm__law_told an__law_told cd__law_told ct__law_told), sl__law_told⟩) (u__law_told : PySem.W.codeIn K cd__law_told "_law_told" = true) (v__law_told : PySem.W.keepIn K (.ref f__law_told) = true)
    {f__law_path : Addr} {od__law_path an__law_path : Option Addr} {sl__law_path : Array (Option Value)} {oc__law_path kV__law_path dc__law_path pm__law_path cd__law_path ct__law_path : Value}
    (a__law_path : PySem.W.nsIn K mainGlobals "_law_path" = some (some (.ref f__law_path))) (l__law_path : K.lookup f__law_path = some ⟨oc__law_path, od__law_path, .func (PySem.W.fnOf "_law_path" "_law_path" (defArgs s__law_path) (defBody s__law_path) (defScope s__law_path) .none kV__law_path dc__law_path pm__law_path an__law_path cd__law_path ct__law_path), sl__law_path⟩) (u__law_path : PySem.W.codeIn K cd__law_path "_law_path" = true) (v__law_path : PySem.W.keepIn K (.ref f__law_path) = true)
    {f_law : Addr} {od_law an_law : Option Addr} {sl_law : Array (Option Value)} {oc_law kV_law dc_law pm_law cd_law ct_law : Value}
    (a_law : PySem.W.nsIn K mainGlobals "law" = some (some (.ref f_law))) (l_law : K.lookup f_law = some ⟨oc_law, od_law, .func (PySem.W.fnOf "law" "law" (defArgs s_law) (defBody s_law) (defScope s_law) .none kV_law dc_law pm_law an_law cd_law ct_law), sl_law⟩) (u_law : PySem.W.codeIn K cd_law "law" = true) (v_law : PySem.W.keepIn K (.ref f_law) = true)
    (z_abs : PySem.W.nsIn K mainGlobals "abs" = some none)
    (z_bool : PySem.W.nsIn K mainGlobals "bool" = some none)
    (z_dict : PySem.W.nsIn K mainGlobals "dict" = some none)
    (z_int : PySem.W.nsIn K mainGlobals "int" = some none)
    (z_isinstance : PySem.W.nsIn K mainGlobals "isinstance" = some none)
    (z_len : PySem.W.nsIn K mainGlobals "len" = some none)
    (z_list : PySem.W.nsIn K mainGlobals "list" = some none)
    (z_max : PySem.W.nsIn K mainGlobals "max" = some none)
    (z_min : PySem.W.nsIn K mainGlobals "min" = some none)
    (z_range : PySem.W.nsIn K mainGlobals "range" = some none)
    (z_reversed : PySem.W.nsIn K mainGlobals "reversed" = some none)
    (z_str : PySem.W.nsIn K mainGlobals "str" = some none)
    (z_tuple : PySem.W.nsIn K mainGlobals "tuple" = some none)
    {t_MOST_ORDER : Tok} (g_MOST_ORDER : PySem.W.nsIn K mainGlobals "MOST_ORDER" = some (some (.int 40 t_MOST_ORDER)))
    (n_KiteError : PySem.W.nsIn K mainGlobals "KiteError" = some (some (.ref C_KiteError))) (e1_KiteError : PySem.W.excIn K C_KiteError [.type "ValueError", .type "Exception", .type "BaseException", .type "object"] "ValueError.__new__" = true) (e2_KiteError : PySem.W.keepIn K (.ref C_KiteError) = true) (e3_KiteError : PySem.W.subIn K (.ref C_KiteError) (.type "BaseException") = some true) (e4_KiteError : PySem.W.typeIn K (.ref C_KiteError) = some (.type "type")) (e5_KiteError : PySem.W.isClsIn K C_KiteError = true)
    (n_OutOfRange : PySem.W.nsIn K mainGlobals "OutOfRange" = some (some (.ref C_OutOfRange))) (e1_OutOfRange : PySem.W.excIn K C_OutOfRange [.type "ValueError", .type "Exception", .type "BaseException", .type "object"] "ValueError.__new__" = true) (e2_OutOfRange : PySem.W.keepIn K (.ref C_OutOfRange) = true) (e3_OutOfRange : PySem.W.subIn K (.ref C_OutOfRange) (.type "BaseException") = some true) (e4_OutOfRange : PySem.W.typeIn K (.ref C_OutOfRange) = some (.type "type")) (e5_OutOfRange : PySem.W.isClsIn K C_OutOfRange = true)
    (n_NotThere : PySem.W.nsIn K mainGlobals "NotThere" = some (some (.ref C_NotThere))) (e1_NotThere : PySem.W.excIn K C_NotThere [.type "ValueError", .type "Exception", .type "BaseException", .type "object"] "ValueError.__new__" = true) (e2_NotThere : PySem.W.keepIn K (.ref C_NotThere) = true) (e3_NotThere : PySem.W.subIn K (.ref C_NotThere) (.type "BaseException") = some true) (e4_NotThere : PySem.W.typeIn K (.ref C_NotThere) = some (.type "type")) (e5_NotThere : PySem.W.isClsIn K C_NotThere = true)
    (x1_OutOfRange : PySem.W.findIn K (.ref C_OutOfRange) "__getattribute__" = some (some (.builtin "BaseException.__getattribute__"))) (x2_OutOfRange : PySem.W.findIn K (.ref C_OutOfRange) "__getattr__" = some none) (x3_OutOfRange : PySem.W.hasDictIn K C_OutOfRange = true) (x4_OutOfRange : PySem.W.findIn K (.ref C_OutOfRange) "__class__" = some (some (.builtin "object.__class__")))
    (x5_OutOfRange : PySem.W.specialIn K (.builtin "object.__class__") "__get__" = some (some (.builtin "getset_descriptor.__get__"))) (x6_OutOfRange : PySem.W.takesIn K (.builtin "object.__class__") = some true) (x7_OutOfRange : PySem.W.mroIn K C_OutOfRange (.type "object") = some true)
    (k_OutOfRange_OutOfRange : PySem.W.subIn K (.ref C_OutOfRange) (.ref C_OutOfRange) = some true) (k_OutOfRange_NotThere : PySem.W.subIn K (.ref C_OutOfRange) (.ref C_NotThere) = some false) (e_OutOfRange : PySem.W.subIn K (.ref C_OutOfRange) (.ref C_KiteError) = some true)
    (x1_NotThere : PySem.W.findIn K (.ref C_NotThere) "__getattribute__" = some (some (.builtin "BaseException.__getattribute__"))) (x2_NotThere : PySem.W.findIn K (.ref C_NotThere) "__getattr__" = some none) (x3_NotThere : PySem.W.hasDictIn K C_NotThere = true) (x4_NotThere : PySem.W.findIn K (.ref C_NotThere) "__class__" = some (some (.builtin "object.__class__")))
    (x5_NotThere : PySem.W.specialIn K (.builtin "object.__class__") "__get__" = some (some (.builtin "getset_descriptor.__get__"))) (x6_NotThere : PySem.W.takesIn K (.builtin "object.__class__") = some true) (x7_NotThere : PySem.W.mroIn K C_NotThere (.type "object") = some true)
    (k_NotThere_OutOfRange : PySem.W.subIn K (.ref C_NotThere) (.ref C_OutOfRange) = some false) (k_NotThere_NotThere : PySem.W.subIn K (.ref C_NotThere) (.ref C_NotThere) = some true) (e_NotThere : PySem.W.subIn K (.ref C_NotThere) (.ref C_KiteError) = some true)
    : LamX.LawAtS l w K (L2N.CX l.prog w) 5 63 "script" mg fa h := by
  have e := hfa.symm.trans (PySem.W.mg_of X G a_law)
  cases e
  have F_is_number := fun_mk (st := s_is_number) l_is_number u_is_number v_is_number
  have F_see_order := fun_mk (st := s_see_order) l_see_order u_see_order v_see_order
  have F_cell_on_path := fun_mk (st := s_cell_on_path) l_cell_on_path u_cell_on_path v_cell_on_path
  have F_place_on_path := fun_mk (st := s_place_on_path) l_place_on_path u_place_on_path v_place_on_path
  have F__law_draws := fun_mk (st := s__law_draws) l__law_draws u__law_draws v__law_draws
  have F__law_take := fun_mk (st := s__law_take) l__law_take u__law_take v__law_take
  have F__law_same := fun_mk (st := s__law_same) l__law_same u__law_same v__law_same
  have F__law_told := fun_mk (st := s__law_told) l__law_told u__law_told v__law_told
  have F__law_path := fun_mk (st := s__law_path) l__law_path u__law_path v__law_path
  have F_law := fun_mk (st := s_law) l_law u_law v_law
  have E_KiteError : ErrC K mg "KiteError" C_KiteError := ⟨e1_KiteError, PySem.W.mg_of X G n_KiteError, e2_KiteError, e3_KiteError, e4_KiteError⟩
  have E_OutOfRange : ErrC K mg "OutOfRange" C_OutOfRange := ⟨e1_OutOfRange, PySem.W.mg_of X G n_OutOfRange, e2_OutOfRange, e3_OutOfRange, e4_OutOfRange⟩
  have E_NotThere : ErrC K mg "NotThere" C_NotThere := ⟨e1_NotThere, PySem.W.mg_of X G n_NotThere, e2_NotThere, e3_NotThere, e4_NotThere⟩
  have Z : Top K mg C_KiteError C_OutOfRange C_NotThere := {
    b_abs := PySem.W.mg_none_of X G z_abs
    b_bool := PySem.W.mg_none_of X G z_bool
    b_dict := PySem.W.mg_none_of X G z_dict
    b_int := PySem.W.mg_none_of X G z_int
    b_isinstance := PySem.W.mg_none_of X G z_isinstance
    b_len := PySem.W.mg_none_of X G z_len
    b_list := PySem.W.mg_none_of X G z_list
    b_max := PySem.W.mg_none_of X G z_max
    b_min := PySem.W.mg_none_of X G z_min
    b_range := PySem.W.mg_none_of X G z_range
    b_reversed := PySem.W.mg_none_of X G z_reversed
    b_str := PySem.W.mg_none_of X G z_str
    b_tuple := PySem.W.mg_none_of X G z_tuple
    g_MOST_ORDER := ⟨_, PySem.W.mg_of X G g_MOST_ORDER⟩
    x_KiteError := E_KiteError
    x_OutOfRange := E_OutOfRange
    x_NotThere := E_NotThere
    }
  obtain ⟨cs, hcs⟩ : ∃ cs : List (Addr × Addr), cs = [] := ⟨_, rfl⟩
  refine ⟨PySem.W.fnOf "law" "law" (defArgs s_law) (defBody s_law) (defScope s_law) .none kV_law dc_law pm_law an_law cd_law ct_law, [], liftSp K (fun a => ∃ p, p ∈ ([] : List (Addr × Addr)) ∧ p.2 = a) sp_law, (fun p hp => nomatch hp), (fun p hp => nomatch hp), (fun p hp => nomatch hp), fun s v => .of_eq rfl, (fun H a ns hl hb hH hS => script_lift ⟨ns, rfl, hl, fun z hz => bt_bits (hb z hz), rfl⟩ (fun a ⟨p, hp, e⟩ => by rw [← e]; exact tabG_0 (hH p hp)) hS), fun base _ _ TBs => chain Z
    F_is_number (PySem.W.mg_of X G a_is_number)
    F_see_order (PySem.W.mg_of X G a_see_order)
    F_cell_on_path (PySem.W.mg_of X G a_cell_on_path)
    F_place_on_path (PySem.W.mg_of X G a_place_on_path)
    F__law_draws (PySem.W.mg_of X G a__law_draws)
    F__law_take (PySem.W.mg_of X G a__law_take)
    F__law_same (PySem.W.mg_of X G a__law_same)
    F__law_told (PySem.W.mg_of X G a__law_told)
    F__law_path (PySem.W.mg_of X G a__law_path)
    F_law (PySem.W.mg_of X G a_law)
    ⟨x1_OutOfRange, x2_OutOfRange, E_OutOfRange.bC, x3_OutOfRange, x4_OutOfRange, x5_OutOfRange, x6_OutOfRange, x7_OutOfRange⟩ (DL.kit_own e5_OutOfRange e4_OutOfRange k_OutOfRange_OutOfRange k_OutOfRange_OutOfRange) (DL.kit_own e5_NotThere e4_NotThere k_OutOfRange_NotThere k_OutOfRange_OutOfRange) (DL.exm_own e5_KiteError e3_KiteError e4_KiteError e_OutOfRange)
    ⟨x1_NotThere, x2_NotThere, E_NotThere.bC, x3_NotThere, x4_NotThere, x5_NotThere, x6_NotThere, x7_NotThere⟩ (DL.kit_own e5_OutOfRange e4_OutOfRange k_NotThere_OutOfRange k_NotThere_NotThere) (DL.kit_own e5_NotThere e4_NotThere k_NotThere_NotThere k_NotThere_NotThere) (DL.exm_own e5_KiteError e3_KiteError e4_KiteError e_NotThere)
    ⟩
end K91
open PySem PySem.W PyProof.Rows
set_option maxHeartbeats 0 in
theorem PySem.Challenge.cw_kiteheld_k91_whole_paths_through_all_squ_holds : PySem.Challenge.rw_kiteheld_k91_whole_paths_through_all_squ.Holds := by
  w_on; o_law; k_head; (case hw => w_witness2)
  k_fill
  refine DL.walk_ofG (l := PySem.Challenge.rw_kiteheld_k91_whole_paths_through_all_squ) (n := 63) (k := 5) (x := "script") (CX := fun w => L2N.CX PySem.Challenge.rw_kiteheld_k91_whole_paths_through_all_squ.prog w) rfl (by decide) rfl ⟨rfl, by decide, by decide⟩ (fun w h Y => PySem.W.kIn_of Y) ?F (fun w H s e s' hc => hc.elim fun a ⟨B, H', cls, d, _, _, _, _, _, _, _, z⟩ => z)
  case F =>
    intro w mg fa h KX G hmg HT
    refine' K91.ends KX G hmg HT ?a_is_number ?l_is_number ?u_is_number ?v_is_number ?a_see_order ?l_see_order ?u_see_order ?v_see_order ?a_cell_on_path ?l_cell_on_path ?u_cell_on_path ?v_cell_on_path ?a_place_on_path ?l_place_on_path ?u_place_on_path ?v_place_on_path ?a__law_draws ?l__law_draws ?u__law_draws ?v__law_draws ?a__law_take ?l__law_take ?u__law_take ?v__law_take ?a__law_same ?l__law_same ?u__law_same ?v__law_same ?a__law_told ?l__law_told ?u__law_told ?v__law_told ?a__law_path ?l__law_path ?u__law_path ?v__law_path ?a_law ?l_law ?u_law ?v_law ?z_abs ?z_bool ?z_dict ?z_int ?z_isinstance ?z_len ?z_list ?z_max ?z_min ?z_range ?z_reversed ?z_str ?z_tuple ?g_MOST_ORDER ?n_KiteError ?e1_KiteError ?e2_KiteError ?e3_KiteError ?e4_KiteError ?e5_KiteError ?n_OutOfRange ?e1_OutOfRange ?e2_OutOfRange ?e3_OutOfRange ?e4_OutOfRange ?e5_OutOfRange ?n_NotThere ?e1_NotThere ?e2_NotThere ?e3_NotThere ?e4_NotThere ?e5_NotThere ?x1_OutOfRange ?x2_OutOfRange ?x3_OutOfRange ?x4_OutOfRange ?x5_OutOfRange ?x6_OutOfRange ?x7_OutOfRange ?k_OutOfRange_OutOfRange ?k_OutOfRange_NotThere ?e_OutOfRange ?x1_NotThere ?x2_NotThere ?x3_NotThere ?x4_NotThere ?x5_NotThere ?x6_NotThere ?x7_NotThere ?k_NotThere_OutOfRange ?k_NotThere_NotThere ?e_NotThere
    (case a_is_number => k_is)
    (case l_is_number => k_is)
    (case u_is_number => k_is)
    (case v_is_number => k_is)
    (case a_see_order => k_is)
    (case l_see_order => k_is)
    (case u_see_order => k_is)
    (case v_see_order => k_is)
    (case a_cell_on_path => k_is)
    (case l_cell_on_path => k_is)
    (case u_cell_on_path => k_is)
    (case v_cell_on_path => k_is)
    (case a_place_on_path => k_is)
    (case l_place_on_path => k_is)
    (case u_place_on_path => k_is)
    (case v_place_on_path => k_is)
    (case a__law_draws => k_is)
    (case l__law_draws => k_is)
    (case u__law_draws => k_is)
    (case v__law_draws => k_is)
    (case a__law_take => k_is)
    (case l__law_take => k_is)
    (case u__law_take => k_is)
    (case v__law_take => k_is)
    (case a__law_same => k_is)
    (case l__law_same => k_is)
    (case u__law_same => k_is)
    (case v__law_same => k_is)
    (case a__law_told => k_is)
    (case l__law_told => k_is)
    (case u__law_told => k_is)
    (case v__law_told => k_is)
    (case a__law_path => k_is)
    (case l__law_path => k_is)
    (case u__law_path => k_is)
    (case v__law_path => k_is)
    (case a_law => k_is)
    (case l_law => k_is)
    (case u_law => k_is)
    (case v_law => k_is)
    (case z_abs => k_is)
    (case z_bool => k_is)
    (case z_dict => k_is)
    (case z_int => k_is)
    (case z_isinstance => k_is)
    (case z_len => k_is)
    (case z_list => k_is)
    (case z_max => k_is)
    (case z_min => k_is)
    (case z_range => k_is)
    (case z_reversed => k_is)
    (case z_str => k_is)
    (case z_tuple => k_is)
    (case g_MOST_ORDER => k_is)
    (case n_KiteError => k_is)
    (case e1_KiteError => k_exc)
    (case e2_KiteError => k_is)
    (case e3_KiteError => k_is)
    (case e4_KiteError => k_is)
    (case e5_KiteError => k_is)
    (case n_OutOfRange => k_is)
    (case e1_OutOfRange => k_exc)
    (case e2_OutOfRange => k_is)
    (case e3_OutOfRange => k_is)
    (case e4_OutOfRange => k_is)
    (case e5_OutOfRange => k_is)
    (case n_NotThere => k_is)
    (case e1_NotThere => k_exc)
    (case e2_NotThere => k_is)
    (case e3_NotThere => k_is)
    (case e4_NotThere => k_is)
    (case e5_NotThere => k_is)
    (case x1_OutOfRange => k_is)
    (case x2_OutOfRange => k_is)
    (case x3_OutOfRange => k_is)
    (case x4_OutOfRange => k_is)
    (case x5_OutOfRange => k_is)
    (case x6_OutOfRange => k_is)
    (case x7_OutOfRange => k_is)
    (case k_OutOfRange_OutOfRange => k_is)
    (case k_OutOfRange_NotThere => k_is)
    (case e_OutOfRange => k_is)
    (case x1_NotThere => k_is)
    (case x2_NotThere => k_is)
    (case x3_NotThere => k_is)
    (case x4_NotThere => k_is)
    (case x5_NotThere => k_is)
    (case x6_NotThere => k_is)
    (case x7_NotThere => k_is)
    (case k_NotThere_OutOfRange => k_is)
    (case k_NotThere_NotThere => k_is)
    (case e_NotThere => k_is)

