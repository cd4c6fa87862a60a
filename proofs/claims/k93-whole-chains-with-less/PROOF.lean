import PyProof.Rows.All
import Wide.All
import OpenK.AllK
import Wide.FinOn
import HandS.ForMost
import HandS.ForExc
import HandS.Wide
import HandS.WideBits
import HandS.Gcd
import HandS.TupAny
import HandS.TupMul
import HandS.IsInst
import HandS.Star
import HandS.Style
import HandS.Flow
import HandS.Walk
import HandS.Zip
import HandS.Defaults
import HandS.HeadHook2
import HandS.Head0
import HandS.Head1
import HandS.Head2
import HandS.HeadEnd
import KE.KStateDown
import PyProof.StrLawsRepr
import PySem.Challenge.RW_mediantrows_k93_whole_chains_with_less
import HandS.HeadHook4
set_option Elab.async false
set_option linter.all false
set_option maxRecDepth 100000
/-! Sm: a layer of plain data over the hand layer: what an expression, a statement, a def of the text computes, as a Lean function of data. -/
namespace Sm
open PySem PySem.Spec L2

/-! ### data, environments, the drawing source, the monad -/
abbrev D := PyData
/-- a slot: data that is never changed any more; a list (dict) of the frame's own that may be changed; the drawing source -/
inductive Vl where
  | d (x : D) | own (x : D) | src
abbrev Ev := List (Option Vl)
/-- the drawing source: its cells, what is left, the mixed number, the turn -/
structure Ss where
  cells : List Int
  left : Int
  mixed : Int
  turn : Int
abbrev M (α : Type) : Type := Ss → Option (α × Ss)
def ret {α : Type} (x : α) : M α := fun s => some (x, s)
def err {α : Type} : M α := fun _ => none
def bnd {α β : Type} (m : M α) (f : α → M β) : M β := fun s => match m s with
  | none => none
  | some (x, s') => f x s'
def ofO {α : Type} : Option α → M α
  | some x => ret x
  | none => err
section
variable {α β γ : Type}
theorem bnd_ret (x : α) (f : α → M β) : bnd (ret x) f = f x := rfl
theorem bnd_err (f : α → M β) : bnd (err : M α) f = err := rfl
theorem ret_bnd (m : M α) : bnd m ret = m := by
  funext s
  unfold bnd ret
  cases m s with
  | none => rfl
  | some p => rfl
theorem bnd_bnd (m : M α) (f : α → M β) (g : β → M γ) : bnd (bnd m f) g = bnd m fun x => bnd (f x) g := by
  funext s
  unfold bnd
  cases m s with
  | none => rfl
  | some p => rfl
theorem bnd_some {m : M α} {f : α → M β} {s : Ss} {y : β} {s' : Ss} (h : bnd m f s = some (y, s')) : ∃ x s1, m s = some (x, s1) ∧ f x s1 = some (y, s') := by
  unfold bnd at h
  cases q : m s with
  | none =>
    rw [q] at h
    cases h
  | some p =>
    obtain ⟨x, s1⟩ := p
    rw [q] at h
    exact ⟨x, s1, rfl, h⟩
theorem ret_some {x y : α} {s s' : Ss} (h : ret x s = some (y, s')) : x = y ∧ s = s' := by
  unfold ret at h
  cases h
  exact ⟨rfl, rfl⟩
theorem ofO_some {o : Option α} {y : α} {s s' : Ss} (h : ofO o s = some (y, s')) : o = some y ∧ s = s' := by
  cases o with
  | none => cases h
  | some x =>
    obtain ⟨e, e'⟩ := ret_some h
    exact ⟨congrArg some e, e'⟩
end

/-! ### values that are data -/
def kD : Key → D
  | .inl i => .int i
  | .inr x => .str x
section
variable (K : PySem.W.Frag) (A : Addr → Prop) (H : Hp)
/-- a tuple of these, none that A holds, or one of the written part -/
def RT (a : Addr) (vs : List V) : Prop := (H a = some (.tup vs) ∧ ¬ A a) ∨
  ∃ (o : Obj) (its : Array Value) (n : Nat), K.lookup a = some o ∧ o.cls = .type "tuple" ∧ o.data = .seq its n ∧ its.size ≤ sizeLine ∧ Vals vs its.toList
mutual
/-- v is the data x, nothing of it at an address that A holds -/
inductive Rl : V → D → Prop
  | non : Rl .non .none
  | bl (b : Bool) : Rl (.bl b) (.bool b)
  | int (i : Int) : Rl (.int i) (.int i)
  | str (x : Str) : Rl (.str x) (.str x)
  | tup {a : Addr} {vs : List V} {ds : List D} : RT K A H a vs → RlA vs ds → Rl (.ref a) (.tuple ds)
  | lst {a : Addr} {vs : List V} {ds : List D} : H a = some (.lst vs) → ¬ A a → RlA vs ds → Rl (.ref a) (.list ds)
  | dct {a : Addr} : H a = some (.dK []) → ¬ A a → Rl (.ref a) (.dict [])
inductive RlA : List V → List D → Prop
  | nil : RlA [] []
  | cons {v : V} {vs : List V} {x : D} {ds : List D} : Rl v x → RlA vs ds → RlA (v :: vs) (x :: ds)
end
end
section
variable {K : PySem.W.Frag} {A A' : Addr → Prop} {H H' : Hp}
theorem RT.sq {a : Addr} {vs : List V} (h : RT K A H a vs) : SqT K H a vs := by
  rcases h with ⟨h, _⟩ | h
  · exact .inl (.inl h)
  · exact .inr h
mutual
theorem Rl.ext (k : ∀ a o, H a = some o → ¬ A a → H' a = some o ∧ ¬ A' a) : ∀ (x : D) (v : V), Rl K A H v x → Rl K A' H' v x
  | .none, _, h => by cases h; exact .non
  | .bool _, _, h => by cases h; exact .bl _
  | .int _, _, h => by cases h; exact .int _
  | .str _, _, h => by cases h; exact .str _
  | .list ds, _, h => by
    cases h with
    | lst e n r => exact .lst (k _ _ e n).1 (k _ _ e n).2 (RlA.ext k ds _ r)
  | .tuple ds, _, h => by
    cases h with
    | tup e r =>
      refine .tup ?_ (RlA.ext k ds _ r)
      rcases e with ⟨e, n⟩ | e
      · exact .inl (k _ _ e n)
      · exact .inr e
  | .dict _, _, h => by
    cases h with
    | dct e n => exact .dct (k _ _ e n).1 (k _ _ e n).2
theorem RlA.ext (k : ∀ a o, H a = some o → ¬ A a → H' a = some o ∧ ¬ A' a) : ∀ (ds : List D) (vs : List V), RlA K A H vs ds → RlA K A' H' vs ds
  | [], _, h => by cases h; exact .nil
  | x :: ds, _, h => by
    cases h with
    | cons h1 h2 => exact .cons (Rl.ext k x _ h1) (RlA.ext k ds _ h2)
end
theorem RlA.length : ∀ {vs : List V} {ds : List D}, RlA K A H vs ds → vs.length = ds.length
  | _, [], h => by cases h; rfl
  | _, x :: ds, h => by
    cases h with
    | cons h1 h2 => simp [RlA.length h2]
theorem RlA.get : ∀ {vs : List V} {ds : List D} {i : Nat} {v : V}, RlA K A H vs ds → vs[i]? = some v → ∃ x, ds[i]? = some x ∧ Rl K A H v x
  | _, [], _, _, h, e => by cases h; simp at e
  | _, x :: ds, 0, v, h, e => by
    cases h with
    | cons h1 h2 => simp at e; subst e; exact ⟨x, rfl, h1⟩
  | _, x :: ds, i + 1, v, h, e => by
    cases h with
    | cons h1 h2 => exact RlA.get (i := i) h2 (by simpa using e)
theorem RlA.get' : ∀ {vs : List V} {ds : List D} {i : Nat} {x : D}, RlA K A H vs ds → ds[i]? = some x → ∃ v, vs[i]? = some v ∧ Rl K A H v x
  | _, [], _, _, h, e => by simp at e
  | _, y :: ds, 0, v, h, e => by
    cases h with
    | cons h1 h2 => simp at e; subst e; exact ⟨_, rfl, h1⟩
  | _, y :: ds, i + 1, v, h, e => by
    cases h with
    | cons h1 h2 => exact RlA.get' (i := i) h2 (by simpa using e)
theorem RlA.append : ∀ {vs ws : List V} {ds es : List D}, RlA K A H vs ds → RlA K A H ws es → RlA K A H (vs ++ ws) (ds ++ es)
  | _, _, [], _, h, g => by cases h; exact g
  | _, _, x :: ds, _, h, g => by
    cases h with
    | cons h1 h2 => exact .cons h1 (RlA.append h2 g)
theorem RlA.take : ∀ {vs : List V} {ds : List D} (n : Nat), RlA K A H vs ds → RlA K A H (vs.take n) (ds.take n)
  | _, _, 0, _ => by simpa using RlA.nil
  | _, [], n + 1, h => by cases h; simpa using RlA.nil
  | _, x :: ds, n + 1, h => by
    cases h with
    | cons h1 h2 => exact .cons h1 (RlA.take n h2)
theorem RlA.drop : ∀ {vs : List V} {ds : List D} (n : Nat), RlA K A H vs ds → RlA K A H (vs.drop n) (ds.drop n)
  | _, _, 0, h => by simpa using h
  | _, [], n + 1, h => by cases h; simpa using RlA.nil
  | _, x :: ds, n + 1, h => by
    cases h with
    | cons h1 h2 => simpa using RlA.drop n h2
theorem RlA.set : ∀ {vs : List V} {ds : List D} {v : V} {x : D} (n : Nat), RlA K A H vs ds → Rl K A H v x → RlA K A H (vs.set n v) (ds.set n x)
  | _, [], _, _, n, h, _ => by cases h; simpa using RlA.nil
  | _, y :: ds, _, _, 0, h, g => by
    cases h with
    | cons h1 h2 => exact .cons g h2
  | _, y :: ds, _, _, n + 1, h, g => by
    cases h with
    | cons h1 h2 => exact .cons h1 (RlA.set n h2 g)
theorem RlA.reverse : ∀ {vs : List V} {ds : List D}, RlA K A H vs ds → RlA K A H vs.reverse ds.reverse
  | _, [], h => by cases h; exact .nil
  | _, x :: ds, h => by
    cases h with
    | cons h1 h2 => rw [List.reverse_cons, List.reverse_cons]; exact (RlA.reverse h2).append (.cons h1 .nil)
theorem RlA.replicate {vs : List V} {ds : List D} (h : RlA K A H vs ds) : ∀ n : Nat, RlA K A H (List.replicate n vs).flatten (List.replicate n ds).flatten
  | 0 => .nil
  | n + 1 => by rw [List.replicate_succ, List.replicate_succ, List.flatten_cons, List.flatten_cons]; exact h.append (RlA.replicate h n)
theorem RlA.ints : ∀ (ns : List Int), RlA K A H (ns.map V.int) (ns.map PyData.int)
  | [] => .nil
  | n :: ns => .cons (.int n) (RlA.ints ns)
theorem RlA.ints_inv : ∀ {ns : List Int} {vs : List V}, RlA K A H vs (ns.map PyData.int) → vs = ns.map V.int
  | [], _, h => by cases h; rfl
  | n :: ns, _, h => by
    cases h with
    | cons h1 h2 => cases h1; rw [RlA.ints_inv h2]; rfl
theorem RlA.bools_inv : ∀ {ns : List Bool} {vs : List V}, RlA K A H vs (ns.map PyData.bool) → vs = ns.map V.bl
  | [], _, h => by cases h; rfl
  | n :: ns, _, h => by
    cases h with
    | cons h1 h2 => cases h1; rw [RlA.bools_inv h2]; rfl
theorem RlA.strs_inv : ∀ {ns : List Str} {vs : List V}, RlA K A H vs (ns.map PyData.str) → vs = ns.map V.str
  | [], _, h => by cases h; rfl
  | n :: ns, _, h => by
    cases h with
    | cons h1 h2 => cases h1; rw [RlA.strs_inv h2]; rfl
end

/-! ### the source, the frame -/
/-- the source's dict at a, its cells at c -/
def SrcAt (a c : Addr) (H : Hp) (s : Ss) : Prop :=
  H a = some (.dK [(.inr "cells", .ref c), (.inr "left", .int s.left), (.inr "mixed", .int s.mixed), (.inr "turn", .int s.turn)]) ∧ H c = some (.lst (s.cells.map V.int)) ∧ a ≠ c
/-- what stands around: the source's two addresses, what values of the frame never hold, the heap at the entry, pinned values -/
structure Gh where
  sd : Addr
  sc : Addr
  A : Addr → Prop
  H0 : Hp
  P : List (V × D)
/-- the addresses that may be written: Γ's own and those of the frame's own lists -/
def MM (Γ : Gh) (ρ : Ev) (σ : L2.St) : Addr → Prop := fun b => Γ.A b ∨ ∃ (i : Nat) (x : D), ρ[i]? = some (some (.own x)) ∧ σ[i]? = some (some (.ref b))
/-- a list of one's own at p -/
def OwnAt (K : PySem.W.Frag) (A : Addr → Prop) (H : Hp) (p : Addr) (x : D) : Prop := ∃ (vs : List V) (ds : List D), x = .list ds ∧ H p = some (.lst vs) ∧ RlA K A H vs ds
structure FR (K : PySem.W.Frag) (Γ : Gh) (ρ : Ev) (σ : L2.St) (H : Hp) (s : Ss) : Prop where
  keep : ∀ b o, Γ.H0 b = some o → b ≠ Γ.sd → b ≠ Γ.sc → H b = some o
  dom : ∀ b, Γ.A b → ∃ o, H b = some o
  msd : Γ.A Γ.sd
  msc : Γ.A Γ.sc
  src : SrcAt Γ.sd Γ.sc H s
  len : σ.length = ρ.length
  val : ∀ (i : Nat) (x : D), ρ[i]? = some (some (.d x)) → ∃ v, σ[i]? = some (some v) ∧ Rl K (MM Γ ρ σ) H v x
  srcv : ∀ (i : Nat), ρ[i]? = some (some .src) → σ[i]? = some (some (.ref Γ.sd))
  own : ∀ (i : Nat) (x : D), ρ[i]? = some (some (.own x)) → ∃ p, σ[i]? = some (some (.ref p)) ∧ Γ.H0 p = none ∧ ¬ Γ.A p ∧ OwnAt K (MM Γ ρ σ) H p x
  inj : ∀ (i j : Nat) (x y : D) (p : Addr), ρ[i]? = some (some (.own x)) → ρ[j]? = some (some (.own y)) → σ[i]? = some (some (.ref p)) → σ[j]? = some (some (.ref p)) → i = j
  pin : ∀ p ∈ Γ.P, Rl K (MM Γ ρ σ) H p.1 p.2
/-- what was tracked is so still, but for the source -/
def Xs (Γ : Gh) (H H' : Hp) : Prop := ∀ b o, H b = some o → b ≠ Γ.sd → b ≠ Γ.sc → H' b = some o
structure Nx (Γ : Gh) (H H' : Hp) (s' : Ss) : Prop where
  xs : Xs Γ H H'
  src : SrcAt Γ.sd Γ.sc H' s'
section
variable {K : PySem.W.Frag} {Γ : Gh} {ρ : Ev} {σ : L2.St} {H H' H2 : Hp} {s s' s2 : Ss} {p : Addr}
theorem Xs.refl : Xs Γ H H := fun _ _ h _ _ => h
theorem Xs.trans (a : Xs Γ H H') (b : Xs Γ H' H2) : Xs Γ H H2 := fun c o h h1 h2 => b c o (a c o h h1 h2) h1 h2
theorem Nx.trans (a : Nx Γ H H' s') (b : Nx Γ H' H2 s2) : Nx Γ H H2 s2 := ⟨a.xs.trans b.xs, b.src⟩
theorem FR.nx0 (F : FR K Γ ρ σ H s) : Nx Γ H H s := ⟨Xs.refl, F.src⟩
theorem SrcAt.upd {a c : Addr} {o : HO} (h : SrcAt a c H s) (hn : H p = none) : SrcAt a c (upd H p o) s := by
  obtain ⟨h1, h2, h3⟩ := h
  exact ⟨by rw [upd_ne (ne_of_none h1 hn)]; exact h1, by rw [upd_ne (ne_of_none h2 hn)]; exact h2, h3⟩
theorem Xs.upd {o : HO} (hn : H p = none) : Xs Γ H (upd H p o) := fun b u h _ _ => by rw [upd_ne (ne_of_none h hn)]; exact h
/-- a new object laid -/
theorem Nx.laid {o : HO} (n : Nx Γ H H' s') (hn : H' p = none) : Nx Γ H (upd H' p o) s' := ⟨n.xs.trans (Xs.upd hn), n.src.upd hn⟩
theorem FR.mne (F : FR K Γ ρ σ H s) {b : Addr} (h : ¬ MM Γ ρ σ b) : b ≠ Γ.sd ∧ b ≠ Γ.sc := ⟨fun e => h (.inl (e ▸ F.msd)), fun e => h (.inl (e ▸ F.msc))⟩
theorem FR.mdom (F : FR K Γ ρ σ H s) {b : Addr} (h : MM Γ ρ σ b) : ∃ o, H b = some o := by
  rcases h with h | ⟨i, x, h1, h2⟩
  · exact F.dom b h
  · obtain ⟨p, e, _, _, vs, ds, _, e2, _⟩ := F.own i x h1
    rw [h2] at e
    cases e
    exact ⟨_, e2⟩
theorem FR.nomm (F : FR K Γ ρ σ H s) {b : Addr} (h : H b = none) : ¬ MM Γ ρ σ b := fun z => by
  obtain ⟨o, e⟩ := F.mdom z
  rw [h] at e; cases e
/-- a value stays, the heap grown -/
theorem FR.rl (F : FR K Γ ρ σ H s) (n : Xs Γ H H') {v : V} {x : D} (h : Rl K (MM Γ ρ σ) H v x) : Rl K (MM Γ ρ σ) H' v x :=
  Rl.ext (fun a o e q => ⟨n a o e (F.mne q).1 (F.mne q).2, q⟩) x v h
theorem FR.rlA (F : FR K Γ ρ σ H s) (n : Xs Γ H H') {vs : List V} {ds : List D} (h : RlA K (MM Γ ρ σ) H vs ds) : RlA K (MM Γ ρ σ) H' vs ds :=
  RlA.ext (fun a o e q => ⟨n a o e (F.mne q).1 (F.mne q).2, q⟩) ds vs h
theorem FR.ownne (F : FR K Γ ρ σ H s) {i : Nat} {x : D} (h : ρ[i]? = some (some (.own x))) (e : σ[i]? = some (some (.ref p))) : p ≠ Γ.sd ∧ p ≠ Γ.sc := by
  obtain ⟨q, e1, _, n, _⟩ := F.own i x h
  rw [e] at e1; cases e1
  exact ⟨fun z => n (z ▸ F.msd), fun z => n (z ▸ F.msc)⟩
theorem FR.nx (F : FR K Γ ρ σ H s) (n : Nx Γ H H' s') : FR K Γ ρ σ H' s' := by
  refine ⟨fun b o h h1 h2 => n.xs b o (F.keep b o h h1 h2) h1 h2, fun b h => ?_, F.msd, F.msc, n.src, F.len, fun i x h => ?_, F.srcv, fun i x h => ?_, F.inj, fun p h => F.rl n.xs (F.pin p h)⟩
  · obtain ⟨o, e⟩ := F.dom b h
    by_cases h1 : b = Γ.sd
    · subst h1; exact ⟨_, n.src.1⟩
    · by_cases h2 : b = Γ.sc
      · subst h2; exact ⟨_, n.src.2.1⟩
      · exact ⟨o, n.xs b o e h1 h2⟩
  · obtain ⟨v, e, r⟩ := F.val i x h
    exact ⟨v, e, F.rl n.xs r⟩
  · obtain ⟨p, e, e0, nA, vs, ds, ex, e1, r⟩ := F.own i x h
    obtain ⟨n1, n2⟩ := F.ownne h e
    exact ⟨p, e, e0, nA, vs, ds, ex, n.xs p _ e1 n1 n2, F.rlA n.xs r⟩
end
/-- one more address that values don't hold -/
abbrev Gh.add (Γ : Gh) (p : Addr) : Gh := { Γ with A := fun b => Γ.A b ∨ b = p }
abbrev Gh.pinned (Γ : Gh) (P : List (V × D)) : Gh := { Γ with P := P ++ Γ.P }
section
variable {K : PySem.W.Frag} {Γ : Gh} {ρ : Ev} {σ : L2.St} {H H' H2 : Hp} {s s' s2 : Ss} {p : Addr}
theorem MM.add : ∀ b, MM (Γ.add p) ρ σ b ↔ (MM Γ ρ σ b ∨ b = p) := fun b => by
  unfold MM
  constructor
  · rintro ((h | h) | h)
    · exact .inl (.inl h)
    · exact .inr h
    · exact .inl (.inr h)
  · rintro ((h | h) | h)
    · exact .inl (.inl h)
    · exact .inr h
    · exact .inl (.inr h)
theorem Rl.new (hn : H p = none) {v : V} {x : D} (h : Rl K (MM Γ ρ σ) H v x) : Rl K (MM (Γ.add p) ρ σ) H v x :=
  Rl.ext (fun a o e q => ⟨e, fun z => by
    rcases (MM.add a).mp z with z | z
    · exact q z
    · exact ne_of_none e hn z⟩) x v h
theorem RlA.new (hn : H p = none) {vs : List V} {ds : List D} (h : RlA K (MM Γ ρ σ) H vs ds) : RlA K (MM (Γ.add p) ρ σ) H vs ds :=
  RlA.ext (fun a o e q => ⟨e, fun z => by
    rcases (MM.add a).mp z with z | z
    · exact q z
    · exact ne_of_none e hn z⟩) ds vs h
/-- p is new: nothing of the frame holds it -/
theorem FR.new (F : FR K Γ ρ σ H s) (n : Nx Γ H H' s') (hn : H p = none) {o : HO} (hp : H' p = some o) : FR K (Γ.add p) ρ σ H' s' := by
  have G := F.nx n
  have up : ∀ {v : V} {x : D}, Rl K (MM Γ ρ σ) H v x → Rl K (MM (Γ.add p) ρ σ) H' v x := fun {v x} h =>
    Rl.ext (fun a o e q => ⟨n.xs a o e (F.mne (fun z => q ((MM.add a).mpr (.inl z)))).1 (F.mne (fun z => q ((MM.add a).mpr (.inl z)))).2, q⟩) x v (Rl.new hn h)
  have upA : ∀ {vs : List V} {ds : List D}, RlA K (MM Γ ρ σ) H vs ds → RlA K (MM (Γ.add p) ρ σ) H' vs ds := fun {vs ds} h =>
    RlA.ext (fun a o e q => ⟨n.xs a o e (F.mne (fun z => q ((MM.add a).mpr (.inl z)))).1 (F.mne (fun z => q ((MM.add a).mpr (.inl z)))).2, q⟩) ds vs (RlA.new hn h)
  refine ⟨G.keep, fun b h => ?_, .inl F.msd, .inl F.msc, G.src, G.len, fun i x h => ?_, G.srcv, fun i x h => ?_, G.inj, fun q h => up (F.pin q h)⟩
  · rcases h with h | h
    · exact G.dom b h
    · exact ⟨o, h ▸ hp⟩
  · obtain ⟨v, e, r⟩ := F.val i x h
    exact ⟨v, e, up r⟩
  · obtain ⟨q, e, e0, nA, vs, ds, ex, e1, r⟩ := F.own i x h
    obtain ⟨n1, n2⟩ := F.ownne h e
    refine ⟨q, e, e0, fun z => ?_, vs, ds, ex, n.xs q _ e1 n1 n2, upA r⟩
    rcases z with z | z
    · exact nA z
    · exact ne_of_none e1 hn z
theorem Rl.old {v : V} {x : D} (h : Rl K (MM (Γ.add p) ρ σ) H v x) : Rl K (MM Γ ρ σ) H v x :=
  Rl.ext (fun a o e q => ⟨e, fun z => q ((MM.add a).mpr (.inl z))⟩) x v h
theorem RlA.old {vs : List V} {ds : List D} (h : RlA K (MM (Γ.add p) ρ σ) H vs ds) : RlA K (MM Γ ρ σ) H vs ds :=
  RlA.ext (fun a o e q => ⟨e, fun z => q ((MM.add a).mpr (.inl z))⟩) ds vs h
theorem FR.old (F : FR K (Γ.add p) ρ σ H s) (h1 : Γ.A Γ.sd) (h2 : Γ.A Γ.sc) : FR K Γ ρ σ H s :=
  ⟨F.keep, fun b h => F.dom b (.inl h), h1, h2, F.src, F.len, fun i x h => let ⟨v, e, r⟩ := F.val i x h; ⟨v, e, r.old⟩, F.srcv,
    fun i x h => let ⟨q, e, e0, nA, vs, ds, ex, e1, r⟩ := F.own i x h; ⟨q, e, e0, fun z => nA (.inl z), vs, ds, ex, e1, r.old⟩, F.inj, fun q h => (F.pin q h).old⟩
theorem FR.pinup (F : FR K Γ ρ σ H s) {P : List (V × D)} (h : ∀ p ∈ P, Rl K (MM Γ ρ σ) H p.1 p.2) : FR K (Γ.pinned P) ρ σ H s :=
  ⟨F.keep, F.dom, F.msd, F.msc, F.src, F.len, F.val, F.srcv, F.own, F.inj, fun p hp => (List.mem_append.mp hp).elim (h p) (F.pin p)⟩
theorem FR.unpin {P : List (V × D)} (F : FR K (Γ.pinned P) ρ σ H s) : FR K Γ ρ σ H s :=
  ⟨F.keep, F.dom, F.msd, F.msc, F.src, F.len, F.val, F.srcv, F.own, F.inj, fun p hp => F.pin p (List.mem_append_right _ hp)⟩
end
end Sm

set_option Elab.async false
set_option linter.all false
set_option maxRecDepth 100000
set_option maxHeartbeats 4000000
namespace Sm
open PySem PySem.Spec L2
/-! ### tuple * int where nothing, or the tuple itself, comes out -/
theorem tuple_mulS (l : Addr) (items : Array Value) (n : Nat) (dd : Option Addr) (sl : Array (Option Value)) (x : Int) (u : Tok) (c0 : (decide (x < -(2 ^ 63)) || decide (x ≥ 2 ^ 63)) = false) (c1 : (items.isEmpty || x == 1) = true) :
    Meets (Builtin.«tuple.__mul__» ⟨[.ref l, .int x u], []⟩) (fun _ R s => s.heap.get? l = some { cls := .type "tuple", dict := dd, data := .seq items n, slots := sl } ∧
      R (.ok (.ret (Value.ref l))) s) :=
  .of_wp fun prog w A R s h => by
    obtain ⟨hp, g, d, tk, os⟩ := s
    obtain ⟨hl, h⟩ := h
    have f1 := AutoSeq1.idx_int
    wp_walk using wpAny_loadPart' hl
    repeat (first
      | (refine wpAny_ite_false (decide_eq_false (by rw [c0]; exact Bool.false_ne_true)) ?_; wp_walk using wpAny_loadPart' hl)
      | (refine wpAny_ite_true (decide_eq_true c1) ?_; wp_walk using wpAny_loadPart' hl))
    exact ⟨_, rfl, h⟩
theorem tuple_mul0 (l : Addr) (items : Array Value) (n : Nat) (dd : Option Addr) (sl : Array (Option Value)) (x : Int) (u : Tok) (c0 : (decide (x < -(2 ^ 63)) || decide (x ≥ 2 ^ 63)) = false) (c1 : (items.isEmpty || x == 1) = false) (c2 : (decide (x ≤ 0) || items.isEmpty) = true) :
    Meets (Builtin.«tuple.__mul__» ⟨[.ref l, .int x u], []⟩) (fun _ R s => s.heap.get? l = some { cls := .type "tuple", dict := dd, data := .seq items n, slots := sl } ∧
      R (.ok (.ret (Value.ref s.heap.objs.size))) { s with heap := s.heap.push { cls := Value.type "tuple", data := Data.seq #[] }, toks := s.toks }) :=
  .of_wp fun prog w A R s h => by
    obtain ⟨hp, g, d, tk, os⟩ := s
    obtain ⟨hl, h⟩ := h
    have f1 := AutoSeq1.idx_int
    wp_walk using wpAny_loadPart' hl
    repeat (first
      | (refine wpAny_ite_false (decide_eq_false (by rw [c0]; exact Bool.false_ne_true)) ?_; wp_walk using wpAny_loadPart' hl)
      | (refine wpAny_ite_false (decide_eq_false (by rw [c1]; exact Bool.false_ne_true)) ?_; wp_walk using wpAny_loadPart' hl)
      | (refine wpAny_ite_true (decide_eq_true c2) ?_; wp_walk using wpAny_loadPart' hl))
    exact ⟨_, rfl, h⟩
def rRepU (K : PySem.W.Frag) : R2 := fun x y H Q => ∃ l k xs, x = .ref l ∧ y = .int k ∧ SqT K H l xs ∧ -(2 ^ 63) ≤ k ∧ k < 2 ^ 63 ∧
  (((xs = [] ∨ k = 1) ∧ Q (.ref l) H) ∨ (xs ≠ [] ∧ k ≠ 1 ∧ k ≤ 0 ∧ ∀ p, H p = none → Q (.ref p) (upd H p (.tup []))))
variable {X : Cx}
theorem op_repU : OpR X (binaryOp .Mult) (rRepU X.K) := by
  intro pins s σ H x y v u Q I rx ry h
  obtain ⟨l, k, xs, rfl, rfl, hT, h1, h2, q⟩ := h
  cases rx
  obtain ⟨t, rfl⟩ := ry
  obtain ⟨its, r, ⟨⟨cls, dd, data, sl⟩, ho, hc, n, hd⟩, hs⟩ := I.tuple hT
  simp only at hc hd
  subst hc hd
  have hle : its.length = xs.length := r.length.symm
  have ee : its = [] ↔ xs = [] := by
    constructor
    · intro e; rw [e] at hle; exact List.eq_nil_of_length_eq_zero hle.symm
    · intro e; rw [e] at hle; exact List.eq_nil_of_length_eq_zero hle
  have c0 : (decide (k < -(2 ^ 63)) || decide (k ≥ 2 ^ 63)) = false := by
    rw [decide_eq_false (by omega), decide_eq_false (by omega)] <;> rfl
  rcases q with ⟨q0, q⟩ | ⟨q0, q1, q2, q⟩
  · have c1 : (its.toArray.isEmpty || k == 1) = true := by
      rcases q0 with e | e
      · rw [ee.mpr e]; rfl
      · subst e; simp
    refine wpAny_binaryOp_repeat_ref (T := "tuple") (U := "int") (by decide) ⟨_, ho, rfl⟩ (fun s' => typeIs_int s' k t) noFill_tuple_mul F.fills_int_mul F.slot_int_rmul repeat_tuple F.slot_int_index.lookup
      (call_meets F.slot_int_rmul (typeIs_int s k t) F.entry_int_rmul (F.args_int_rmul_2 _ _) (int_rmul_tuple k t l its.toArray n dd sl)
        ⟨ho, rfl, ⟨_, ho, rfl⟩, call_meets F.slot_tuple_mul ⟨_, ho, rfl⟩ F.entry_tuple_mul (F.args_tuple_mul_2 _ _) (tuple_mulS l its.toArray n dd sl k t c0 c1) ⟨ho, ?_⟩⟩)
    exact ⟨.ref l, _, I, rfl, q⟩
  · have hi : its.toArray.isEmpty = false := by
      cases its with
      | nil => exact absurd (ee.mp rfl) q0
      | cons a b => rfl
    have c1 : (its.toArray.isEmpty || k == 1) = false := by
      rw [hi, Bool.false_or]
      exact beq_eq_false_iff_ne.mpr q1
    have c2 : (decide (k ≤ 0) || its.toArray.isEmpty) = true := by rw [decide_eq_true q2]; rfl
    refine wpAny_binaryOp_repeat_ref (T := "tuple") (U := "int") (by decide) ⟨_, ho, rfl⟩ (fun s' => typeIs_int s' k t) noFill_tuple_mul F.fills_int_mul F.slot_int_rmul repeat_tuple F.slot_int_index.lookup
      (call_meets F.slot_int_rmul (typeIs_int s k t) F.entry_int_rmul (F.args_int_rmul_2 _ _) (int_rmul_tuple k t l its.toArray n dd sl)
        ⟨ho, rfl, ⟨_, ho, rfl⟩, call_meets F.slot_tuple_mul ⟨_, ho, rfl⟩ F.entry_tuple_mul (F.args_tuple_mul_2 _ _) (tuple_mul0 l its.toArray n dd sl k t c0 c1 c2) ⟨ho, ?_⟩⟩)
    refine ⟨.ref s.heap.objs.size, _, I.laid (t' := s.toks) (o := .tup []) (fun b ob q => Heap.get?_push_of_some _ q) (Nat.le_refl _) ?_, rfl, q _ (I.hok.fresh (Nat.le_refl _))⟩
    exact ⟨Nat.zero_le _, [], .nil, PyProof.Rows.IsTup.new _ _⟩
end Sm

set_option Elab.async false
set_option linter.all false
set_option maxRecDepth 100000
set_option maxHeartbeats 4000000
namespace Sm
open PySem PySem.Spec L2

/-! ### readings over data -/
section
variable (K : PySem.W.Frag)
/-- the value, or the frame's own list as it stands (it may be looked at, not handed on) -/
def RlT (Γ : Gh) (ρ : Ev) (σ : L2.St) (H : Hp) (v : V) (x : D) : Prop := Rl K (MM Γ ρ σ) H v x ∨
  ∃ (i : Nat) (p : Addr), ρ[i]? = some (some (.own x)) ∧ σ[i]? = some (some (.ref p)) ∧ v = .ref p
/-- a new list that nothing else holds (H: the heap ahead) -/
def RlF (Γ : Gh) (ρ : Ev) (σ : L2.St) (H H' : Hp) (v : V) (x : D) : Prop :=
  ∃ (p : Addr) (vs : List V) (ds : List D), v = .ref p ∧ x = .list ds ∧ H p = none ∧ H' p = some (.lst vs) ∧ RlA K (MM (Γ.add p) ρ σ) H' vs ds
def tE (f : Ev → M D) : TE := fun σ H Q => ∃ (Γ : Gh) (ρ : Ev) (s : Ss) (x : D) (s' : Ss), FR K Γ ρ σ H s ∧ f ρ s = some (x, s') ∧ ∀ v H', Nx Γ H H' s' → Rl K (MM Γ ρ σ) H' v x → Q v H'
def tT (f : Ev → M D) : TE := fun σ H Q => ∃ (Γ : Gh) (ρ : Ev) (s : Ss) (x : D) (s' : Ss), FR K Γ ρ σ H s ∧ f ρ s = some (x, s') ∧ ∀ v H', Nx Γ H H' s' → RlT K Γ ρ σ H' v x → Q v H'
def tF (f : Ev → M D) : TE := fun σ H Q => ∃ (Γ : Gh) (ρ : Ev) (s : Ss) (x : D) (s' : Ss), FR K Γ ρ σ H s ∧ f ρ s = some (x, s') ∧ ∀ v H', Nx Γ H H' s' → RlF K Γ ρ σ H H' v x → Q v H'
def tB (f : Ev → M Bool) : TT := fun σ H Q => ∃ (Γ : Gh) (ρ : Ev) (s : Ss) (x : Bool) (s' : Ss), FR K Γ ρ σ H s ∧ f ρ s = some (x, s') ∧ ∀ H', Nx Γ H H' s' → Q x H'
end
abbrev SE (X : Cx) (e : Expr) (f : Ev → M D) : Prop := PE X e (tE X.K f)
abbrev ST (X : Cx) (e : Expr) (f : Ev → M D) : Prop := PE X e (tT X.K f)
abbrev SF (X : Cx) (e : Expr) (f : Ev → M D) : Prop := PE X e (tF X.K f)
abbrev SB (X : Cx) (e : Expr) (f : Ev → M Bool) : Prop := PT X e (tB X.K f)
abbrev SW (X : Cx) (e : Expr) (f : Ev → M Bool) : Prop := PW X e (tB X.K f)
section
variable {X : Cx} {e : Expr}
theorem pe_imp {t t' : TE} (h : PE X e t) (w : ∀ σ H Q, t' σ H Q → t σ H Q) : PE X e t' := ⟨fun pins s σ H Q I q => h.run pins s σ H Q I (w σ H Q q)⟩
theorem pt_imp {t t' : TT} (h : PT X e t) (w : ∀ σ H Q, t' σ H Q → t σ H Q) : PT X e t' := ⟨fun pins s σ H Q I q => h.run pins s σ H Q I (w σ H Q q)⟩
theorem pw_imp {t t' : TT} (h : PW X e t) (w : ∀ σ H Q, t' σ H Q → t σ H Q) : PW X e t' := ⟨fun wh pins s σ H Q I q => h.run wh pins s σ H Q I (w σ H Q q)⟩
end
section
variable {K : PySem.W.Frag} {Γ : Gh} {ρ : Ev} {σ : L2.St} {H H1 H' : Hp} {s s' : Ss} {v : V} {x : D}
theorem RlF.rl (F : FR K Γ ρ σ H s) (h : RlF K Γ ρ σ H H' v x) : Rl K (MM Γ ρ σ) H' v x := by
  obtain ⟨p, vs, ds, rfl, rfl, hn, e, r⟩ := h
  exact .lst e (F.nomm hn) r.old
theorem Xs.none (F : FR K Γ ρ σ H1 s) (n : Xs Γ H H1) {p : Addr} (hn : H1 p = none) : H p = none := by
  cases q : H p with
  | none => rfl
  | some o =>
    by_cases h1 : p = Γ.sd
    · rw [h1, F.src.1] at hn; cases hn
    · by_cases h2 : p = Γ.sc
      · rw [h2, F.src.2.1] at hn; cases hn
      · rw [n p o q h1 h2] at hn; cases hn
theorem RlF.mono (F : FR K Γ ρ σ H1 s) (n : Xs Γ H H1) (h : RlF K Γ ρ σ H1 H' v x) : RlF K Γ ρ σ H H' v x := by
  obtain ⟨p, vs, ds, ev, ex, hn, e, r⟩ := h
  exact ⟨p, vs, ds, ev, ex, Xs.none F n hn, e, r⟩
theorem RlT.xs (F : FR K Γ ρ σ H s) (n : Xs Γ H H') (h : RlT K Γ ρ σ H v x) : RlT K Γ ρ σ H' v x := h.imp (F.rl n) id
/-- what a list, a tuple is, as it stands -/
theorem RlT.list (F : FR K Γ ρ σ H s) {ds : List D} (h : RlT K Γ ρ σ H v (.list ds)) : ∃ p vs, v = .ref p ∧ H p = some (.lst vs) ∧ RlA K (MM Γ ρ σ) H vs ds := by
  rcases h with h | ⟨i, p, h1, h2, rfl⟩
  · cases h with
    | lst e n r => exact ⟨_, _, rfl, e, r⟩
  · obtain ⟨q, e, _, _, vs, ds', ex, e1, r⟩ := F.own i _ h1
    rw [h2] at e
    cases e
    cases ex
    exact ⟨_, _, rfl, e1, r⟩
theorem RlT.tup (F : FR K Γ ρ σ H s) {ds : List D} (h : RlT K Γ ρ σ H v (.tuple ds)) : ∃ a vs, v = .ref a ∧ RT K (MM Γ ρ σ) H a vs ∧ RlA K (MM Γ ρ σ) H vs ds := by
  rcases h with h | ⟨i, p, h1, h2, rfl⟩
  · cases h with
    | tup e r => exact ⟨_, _, rfl, e, r⟩
  · obtain ⟨q, e, _, _, vs, ds', ex, e1, r⟩ := F.own i _ h1
    cases ex
theorem RlT.int (F : FR K Γ ρ σ H s) {i : Int} (h : RlT K Γ ρ σ H v (.int i)) : v = .int i := by
  rcases h with h | ⟨i, p, h1, h2, rfl⟩
  · cases h; rfl
  · obtain ⟨q, e, _, _, vs, ds', ex, e1, r⟩ := F.own i _ h1
    cases ex
theorem RlT.bool (F : FR K Γ ρ σ H s) {i : Bool} (h : RlT K Γ ρ σ H v (.bool i)) : v = .bl i := by
  rcases h with h | ⟨i, p, h1, h2, rfl⟩
  · cases h; rfl
  · obtain ⟨q, e, _, _, vs, ds', ex, e1, r⟩ := F.own i _ h1
    cases ex
theorem RlT.str (F : FR K Γ ρ σ H s) {i : Str} (h : RlT K Γ ρ σ H v (.str i)) : v = .str i := by
  rcases h with h | ⟨i, p, h1, h2, rfl⟩
  · cases h; rfl
  · obtain ⟨q, e, _, _, vs, ds', ex, e1, r⟩ := F.own i _ h1
    cases ex
theorem RlT.none (F : FR K Γ ρ σ H s) (h : RlT K Γ ρ σ H v .none) : v = .non := by
  rcases h with h | ⟨i, p, h1, h2, rfl⟩
  · cases h; rfl
  · obtain ⟨q, e, _, _, vs, ds', ex, e1, r⟩ := F.own i _ h1
    cases ex
/-- the heap grown by a new list, a new tuple -/
theorem aft_lst {Q : VK} (F : FR K Γ ρ σ H s) {vs : List V} {ds : List D} (r : RlA K (MM Γ ρ σ) H vs ds) (k : ∀ u H', Nx Γ H H' s → RlF K Γ ρ σ H H' u (.list ds) → Q u H') :
    ∀ p, H p = none → Q (.ref p) (upd H p (.lst vs)) := fun p hn => by
  have n : Nx Γ H (upd H p (.lst vs)) s := F.nx0.laid hn
  refine k _ _ n ⟨p, vs, ds, rfl, rfl, hn, upd_same, ?_⟩
  exact RlA.ext (fun a o e q => ⟨by rw [upd_ne (ne_of_none e hn)]; exact e, q⟩) ds vs (RlA.new hn r)
theorem aft_tup {Q : VK} (F : FR K Γ ρ σ H s) {vs : List V} {ds : List D} (r : RlA K (MM Γ ρ σ) H vs ds) (k : ∀ u H', Nx Γ H H' s → Rl K (MM Γ ρ σ) H' u (.tuple ds) → Q u H') :
    ∀ p, H p = none → Q (.ref p) (upd H p (.tup vs)) := fun p hn => by
  have n : Nx Γ H (upd H p (.tup vs)) s := F.nx0.laid hn
  exact k _ _ n (.tup (.inl ⟨upd_same, F.nomm hn⟩) (F.rlA n.xs r))
end
section
variable {X : Cx} {e : Expr} {f : Ev → M D}
theorem SF.se (h : SF X e f) : SE X e f := pe_imp h fun σ H Q ⟨Γ, ρ, s, x, s', F, e, k⟩ => ⟨Γ, ρ, s, x, s', F, e, fun v H' n r => k v H' n (r.rl F)⟩
theorem SE.st (h : SE X e f) : ST X e f := pe_imp h fun σ H Q ⟨Γ, ρ, s, x, s', F, e, k⟩ => ⟨Γ, ρ, s, x, s', F, e, fun v H' n r => k v H' n (.inl r)⟩
theorem SF.st (h : SF X e f) : ST X e f := h.se.st
end

/-! ### names, constants -/
def gVar (ρ : Ev) (i : Nat) : Option D := match ρ[i]? with
  | some (some (.d x)) => some x
  | _ => none
def gOwn (ρ : Ev) (i : Nat) : Option D := match ρ[i]? with
  | some (some (.own x)) => some x
  | some (some (.d x)) => some x
  | _ => none
def eVar (i : Nat) : Ev → M D := fun ρ => ofO (gVar ρ i)
/-- the frame's own list, looked at -/
def eOwn (i : Nat) : Ev → M D := fun ρ => ofO (gOwn ρ i)
def eC (x : D) : Ev → M D := fun _ => ret x
section
variable {X : Cx}
theorem se_var (i : Nat) {x : Str} {pos : Pos} (hN : X.N[i]? = some x := by rfl) (hv : Vis X.env.scope x := by first | exact Or.inl rfl | exact Or.inr (Or.inl rfl) | exact Or.inr (Or.inr rfl)) (hd : (x == ("__debug__" : Str)) = false := by decide)
    (hcd : (x == ("__classdict__" : Str)) = false := by decide) : SE X (.Name x pos) (eVar i) := pe_imp (pe_var hN hv hd hcd) fun σ H Q ⟨Γ, ρ, s, y, s', F, e, k⟩ => by
  obtain ⟨e', rfl⟩ := ofO_some (show ofO (gVar ρ i) s = some (y, s') from e)
  clear e
  have e := e'
  clear e'
  unfold gVar at e
  split at e
  · rename_i z q
    cases e
    obtain ⟨v, e1, r⟩ := F.val i _ q
    exact ⟨v, e1, k v H F.nx0 r⟩
  · cases e
theorem st_own (i : Nat) {x : Str} {pos : Pos} (hN : X.N[i]? = some x := by rfl) (hv : Vis X.env.scope x := by first | exact Or.inl rfl | exact Or.inr (Or.inl rfl) | exact Or.inr (Or.inr rfl)) (hd : (x == ("__debug__" : Str)) = false := by decide)
    (hcd : (x == ("__classdict__" : Str)) = false := by decide) : ST X (.Name x pos) (eOwn i) := pe_imp (pe_var hN hv hd hcd) fun σ H Q ⟨Γ, ρ, s, y, s', F, e, k⟩ => by
  obtain ⟨e', rfl⟩ := ofO_some (show ofO (gOwn ρ i) s = some (y, s') from e)
  clear e
  have e := e'
  clear e'
  unfold gOwn at e
  split at e
  · rename_i z q
    cases e
    obtain ⟨p, e1, _⟩ := F.own i _ q
    exact ⟨.ref p, e1, k _ H F.nx0 (.inr ⟨i, p, q, e1, rfl⟩)⟩
  · rename_i z q
    cases e
    obtain ⟨v, e1, r⟩ := F.val i _ q
    exact ⟨v, e1, k v H F.nx0 (.inl r)⟩
  · cases e
theorem se_tc {e : Expr} {v : V} {x : D} (h : PE X e (tC v)) (r : ∀ A H, Rl X.K A H v x) : SE X e (eC x) := pe_imp h fun σ H Q ⟨Γ, ρ, s, y, s', F, e, k⟩ => by
  obtain ⟨rfl, rfl⟩ := ret_some e
  exact k v H F.nx0 (r _ _)
theorem se_int {i j pos} : SE X (.Constant (.int i) j pos) (eC (.int i)) := se_tc pe_int fun _ _ => .int i
theorem se_bl {b j pos} : SE X (.Constant (.bool b) j pos) (eC (.bool b)) := se_tc pe_bl fun _ _ => .bl b
theorem se_non {j pos} : SE X (.Constant .none j pos) (eC .none) := se_tc pe_non fun _ _ => .non
theorem se_str {x j pos} : SE X (.Constant (.str x) j pos) (eC (.str x)) := se_tc pe_str fun _ _ => .str x
end

/-! ### operators -/
/-- what a two-place rule asks, for data -/
def Cv2 (K : PySem.W.Frag) (r : R2) (g : D → D → Option D) : Prop := ∀ (Γ : Gh) (ρ : Ev) (σ : L2.St) (H : Hp) (s : Ss) (v w : V) (x y z : D) (Q : VK), FR K Γ ρ σ H s → RlT K Γ ρ σ H v x → RlT K Γ ρ σ H w y → g x y = some z →
  (∀ u H', Nx Γ H H' s → Rl K (MM Γ ρ σ) H' u z → Q u H') → r v w H Q
def CvF (K : PySem.W.Frag) (r : R2) (g : D → D → Option D) : Prop := ∀ (Γ : Gh) (ρ : Ev) (σ : L2.St) (H : Hp) (s : Ss) (v w : V) (x y z : D) (Q : VK), FR K Γ ρ σ H s → RlT K Γ ρ σ H v x → RlT K Γ ρ σ H w y → g x y = some z →
  (∀ u H', Nx Γ H H' s → RlF K Γ ρ σ H H' u z → Q u H') → r v w H Q
def Cv1 (K : PySem.W.Frag) (r : V → Hp → VK → Prop) (g : D → Option D) : Prop := ∀ (Γ : Gh) (ρ : Ev) (σ : L2.St) (H : Hp) (s : Ss) (v : V) (x z : D) (Q : VK), FR K Γ ρ σ H s → RlT K Γ ρ σ H v x → g x = some z →
  (∀ u H', Nx Γ H H' s → Rl K (MM Γ ρ σ) H' u z → Q u H') → r v H Q
def CvF1 (K : PySem.W.Frag) (r : V → Hp → VK → Prop) (g : D → Option D) : Prop := ∀ (Γ : Gh) (ρ : Ev) (σ : L2.St) (H : Hp) (s : Ss) (v : V) (x z : D) (Q : VK), FR K Γ ρ σ H s → RlT K Γ ρ σ H v x → g x = some z →
  (∀ u H', Nx Γ H H' s → RlF K Γ ρ σ H H' u z → Q u H') → r v H Q
def eBin (g : D → D → Option D) (fa fb : Ev → M D) : Ev → M D := fun ρ => bnd (fa ρ) fun x => bnd (fb ρ) fun y => ofO (g x y)
def eUn (g : D → Option D) (fa : Ev → M D) : Ev → M D := fun ρ => bnd (fa ρ) fun x => ofO (g x)
section
variable {X : Cx} {a b : Expr} {fa fb : Ev → M D} {pos : Pos} {r : R2} {g : D → D → Option D}
theorem bin_imp (hc : Cv2 X.K r g) {σ : L2.St} {H : Hp} {Q : VK} (h : tE X.K (eBin g fa fb) σ H Q) : tOp r (tT X.K fa) (tT X.K fb) σ H Q := by
  obtain ⟨Γ, ρ, s, z, s', F, e, k⟩ := h
  obtain ⟨x, s1, e1, e⟩ := bnd_some e
  obtain ⟨y, s2, e2, e⟩ := bnd_some e
  obtain ⟨e3, rfl⟩ := ofO_some e
  refine ⟨Γ, ρ, s, x, s1, F, e1, fun v H1 n1 r1 => ⟨Γ, ρ, s1, y, s2, F.nx n1, e2, fun w H2 n2 r2 => ?_⟩⟩
  exact hc Γ ρ σ H2 s2 v w x y z Q ((F.nx n1).nx n2) (r1.xs (F.nx n1) n2.xs) r2 e3 fun u H' n3 r3 => k u H' ((n1.trans n2).trans n3) r3
theorem binF_imp (hc : CvF X.K r g) {σ : L2.St} {H : Hp} {Q : VK} (h : tF X.K (eBin g fa fb) σ H Q) : tOp r (tT X.K fa) (tT X.K fb) σ H Q := by
  obtain ⟨Γ, ρ, s, z, s', F, e, k⟩ := h
  obtain ⟨x, s1, e1, e⟩ := bnd_some e
  obtain ⟨y, s2, e2, e⟩ := bnd_some e
  obtain ⟨e3, rfl⟩ := ofO_some e
  refine ⟨Γ, ρ, s, x, s1, F, e1, fun v H1 n1 r1 => ⟨Γ, ρ, s1, y, s2, F.nx n1, e2, fun w H2 n2 r2 => ?_⟩⟩
  exact hc Γ ρ σ H2 s2 v w x y z Q ((F.nx n1).nx n2) (r1.xs (F.nx n1) n2.xs) r2 e3 fun u H' n3 r3 => k u H' ((n1.trans n2).trans n3) (r3.mono ((F.nx n1).nx n2) (n1.xs.trans n2.xs))
theorem se_op {op : Operator} (ho : OpR X (binaryOp op) r) (hc : Cv2 X.K r g) (ha : ST X a fa) (hb : ST X b fb) : SE X (.BinOp a op b pos) (eBin g fa fb) := pe_imp (pe_op ho ha hb) fun _ _ _ h => bin_imp hc h
theorem sf_op {op : Operator} (ho : OpR X (binaryOp op) r) (hc : CvF X.K r g) (ha : ST X a fa) (hb : ST X b fb) : SF X (.BinOp a op b pos) (eBin g fa fb) := pe_imp (pe_op ho ha hb) fun _ _ _ h => binF_imp hc h
theorem se_cmp {op : CmpOp} (ho : OpR X (compareOp op) r) (hc : Cv2 X.K r g) (hm : behindInMarks op b = false) (ha : ST X a fa) (hb : ST X b fb) : SE X (.Compare a [op] [b] pos) (eBin g fa fb) := pe_imp (pe_cmpR ho ha hb hm) fun _ _ _ h => bin_imp hc h
theorem un_imp {r : V → Hp → VK → Prop} {g : D → Option D} (hc : Cv1 X.K r g) {σ : L2.St} {H : Hp} {Q : VK} (h : tE X.K (eUn g fa) σ H Q) : tUn r (tT X.K fa) σ H Q := by
  obtain ⟨Γ, ρ, s, z, s', F, e, k⟩ := h
  obtain ⟨x, s1, e1, e⟩ := bnd_some e
  obtain ⟨e3, rfl⟩ := ofO_some e
  refine ⟨Γ, ρ, s, x, s1, F, e1, fun v H1 n1 r1 => ?_⟩
  exact hc Γ ρ σ H1 s1 v x z Q (F.nx n1) r1 e3 fun u H' n3 r3 => k u H' (n1.trans n3) r3
theorem unF_imp {r : V → Hp → VK → Prop} {g : D → Option D} (hc : CvF1 X.K r g) {σ : L2.St} {H : Hp} {Q : VK} (h : tF X.K (eUn g fa) σ H Q) : tUn r (tT X.K fa) σ H Q := by
  obtain ⟨Γ, ρ, s, z, s', F, e, k⟩ := h
  obtain ⟨x, s1, e1, e⟩ := bnd_some e
  obtain ⟨e3, rfl⟩ := ofO_some e
  refine ⟨Γ, ρ, s, x, s1, F, e1, fun v H1 n1 r1 => ?_⟩
  exact hc Γ ρ σ H1 s1 v x z Q (F.nx n1) r1 e3 fun u H' n3 r3 => k u H' (n1.trans n3) (r3.mono (F.nx n1) n1.xs)
theorem se_un {op : UnaryOp} {r : V → Hp → VK → Prop} {g : D → Option D} (ho : UnR X (unaryOp op) r) (hc : Cv1 X.K r g) (ha : ST X a fa) : SE X (.UnaryOp op a pos) (eUn g fa) := pe_imp (pe_un ho ha) fun _ _ _ h => un_imp hc h
theorem OpR.or {f : Value → Value → Sem Value} {r r' : R2} (h : OpR X f r) (h' : OpR X f r') : OpR X f (fun x y H Q => r x y H Q ∨ r' x y H Q) := by
  intro pins s σ H x y v u Q I rx ry q
  rcases q with q | q
  · exact h pins s σ H x y v u Q I rx ry q
  · exact h' pins s σ H x y v u Q I rx ry q
theorem Cv2.or {K : PySem.W.Frag} {r r' : R2} {g g' : D → D → Option D} (h : Cv2 K r g) (h' : Cv2 K r' g') : Cv2 K (fun x y H Q => r x y H Q ∨ r' x y H Q) (fun x y => (g x y).or (g' x y)) := by
  intro Γ ρ σ H s v w x y z Q F rx ry e k
  have e : (g x y).or (g' x y) = some z := e
  cases q : g x y with
  | some z' =>
    rw [q] at e
    exact .inl (h Γ ρ σ H s v w x y z Q F rx ry (q.trans e) k)
  | none =>
    rw [q] at e
    exact .inr (h' Γ ρ σ H s v w x y z Q F rx ry e k)
end

/-! ### sizes -/
def LIM : Nat := 16000000
theorem lim_ok {n : Nat} (h : n ≤ LIM) : n ≤ sizeLine := Nat.le_trans h (by decide)
theorem lim_lt {n : Nat} (h : n ≤ LIM) : n < sizeLine := Nat.lt_of_le_of_lt h (by decide)
def divOk (j : Int) : Bool := decide (j ≠ 0) && decide (j.natAbs.log2 < 9000)
def small64 (i : Int) : Bool := decide (i.natAbs < 2 ^ 64)
def mulOk (i j : Int) : Bool := decide (i.natAbs.log2 + j.natAbs.log2 < 1000000) || (small64 i || small64 j)
def CMulA (i j : Int) : Prop := CMulW i j ∨ CMul i j
theorem op_mulA {X : Cx} : OpR X (binaryOp .Mult) (rI CMulA fun i j => .int (i * j)) := opI fun _ _ _ _ _ _ _ hc q => PyProof.Rows.mul_int q (hc.elim CMulW.ok CMul.ok)
theorem mulOk_ok {i j : Int} (h : mulOk i j = true) : CMulA i j := by
  unfold mulOk small64 at h
  simp only [Bool.or_eq_true, decide_eq_true_eq] at h
  rcases h with h | h | h
  · exact .inl h
  · exact .inr (.inl ⟨by omega, by omega⟩)
  · exact .inr (.inr ⟨by omega, by omega⟩)

/-! ### + - * // % ** << of data -/
def addI : D → D → Option D
  | .int i, .int j => some (.int (i + j))
  | _, _ => none
def addS : D → D → Option D
  | .str i, .str j => if i.length + j.length ≤ LIM then some (.str (i ++ j)) else none
  | _, _ => none
def addT : D → D → Option D
  | .tuple xs, .tuple ys => if xs.length + ys.length ≤ LIM then some (.tuple (xs ++ ys)) else none
  | _, _ => none
def addL : D → D → Option D
  | .list xs, .list ys => if xs.length + ys.length ≤ LIM then some (.list (xs ++ ys)) else none
  | _, _ => none
def subI : D → D → Option D
  | .int i, .int j => some (.int (i - j))
  | _, _ => none
def mulI : D → D → Option D
  | .int i, .int j => if mulOk i j = true then some (.int (i * j)) else none
  | _, _ => none
def fdivI : D → D → Option D
  | .int i, .int j => if divOk j = true then some (.int (i.fdiv j)) else none
  | _, _ => none
def modI : D → D → Option D
  | .int i, .int j => if j = 0 then none else some (.int (i.fmod j))
  | _, _ => none
def powI : D → D → Option D
  | .int i, .int j => if 0 ≤ j ∧ j ≤ 1000000 ∧ i.natAbs < 2 ^ 64 then some (.int (i ^ j.toNat)) else none
  | _, _ => none
def shlI : D → D → Option D
  | .int i, .int j => if 0 ≤ j ∧ j ≤ 1000000 ∧ i.natAbs < 2 ^ 64 then some (.int (i * 2 ^ j.toNat)) else none
  | _, _ => none
/-- a list, a tuple, times an int -/
def mulT (x y : D) : Option D := match x, y with
  | .tuple xs, .int k => if k < 2 ^ 63 ∧ -(2 ^ 63) ≤ k ∧ xs.length ≤ 1000 ∧ k ≤ 1000 then some (.tuple (List.replicate k.toNat xs).flatten) else none
  | _, _ => none
def mulL : D → D → Option D
  | .list xs, .int k => if k < 2 ^ 63 ∧ -(2 ^ 63) ≤ k ∧ xs.length * k.toNat ≤ LIM then some (.list (List.replicate k.toNat xs).flatten) else none
  | _, _ => none
def negI : D → Option D
  | .int i => some (.int (-i))
  | _ => none
section
variable {K : PySem.W.Frag}
theorem cv_addI : Cv2 K (rI0 fun i j => .int (i + j)) addI := by
  intro Γ ρ σ H s v w x y z Q F rx ry e k
  unfold addI at e
  split at e
  · cases e
    cases rx.int F
    cases ry.int F
    exact ⟨_, _, rfl, rfl, k _ H F.nx0 (.int _)⟩
  · cases e
theorem cv_subI : Cv2 K (rI0 fun i j => .int (i - j)) subI := by
  intro Γ ρ σ H s v w x y z Q F rx ry e k
  unfold subI at e
  split at e
  · cases e
    cases rx.int F
    cases ry.int F
    exact ⟨_, _, rfl, rfl, k _ H F.nx0 (.int _)⟩
  · cases e
theorem cv_mulI : Cv2 K (rI CMulA fun i j => .int (i * j)) mulI := by
  intro Γ ρ σ H s v w x y z Q F rx ry e k
  unfold mulI at e
  split at e
  · split at e
    · rename_i h
      cases e
      cases rx.int F
      cases ry.int F
      exact ⟨_, _, rfl, rfl, mulOk_ok h, k _ H F.nx0 (.int _)⟩
    · cases e
  · cases e
theorem cv_powI : Cv2 K (rI CPow fun i j => .int (i ^ j.toNat)) powI := by
  intro Γ ρ σ H s v w x y z Q F rx ry e k
  unfold powI at e
  split at e
  · split at e
    · rename_i h
      cases e
      cases rx.int F
      cases ry.int F
      exact ⟨_, _, rfl, rfl, h, k _ H F.nx0 (.int _)⟩
    · cases e
  · cases e
theorem cv_shlI : Cv2 K (rI CPow fun i j => .int (i * 2 ^ j.toNat)) shlI := by
  intro Γ ρ σ H s v w x y z Q F rx ry e k
  unfold shlI at e
  split at e
  · split at e
    · rename_i h
      cases e
      cases rx.int F
      cases ry.int F
      exact ⟨_, _, rfl, rfl, h, k _ H F.nx0 (.int _)⟩
    · cases e
  · cases e
theorem op_fdivA {X : Cx} : OpR X (binaryOp .FloorDiv) (rI (fun _ j => divOk j = true) fun i j => .int (i.fdiv j)) := by
  intro pins s σ H x y v u Q I rx ry h
  obtain ⟨i, j, rfl, rfl, hc, q⟩ := h
  obtain ⟨t, rfl⟩ := rx
  obtain ⟨t', rfl⟩ := ry
  have hc : (decide (j ≠ 0) && decide (j.natAbs.log2 < 9000)) = true := hc
  rw [Bool.and_eq_true] at hc
  exact PyProof.Rows.floordiv_int (of_decide_eq_true hc.1) ⟨.int _, H, I.tok _, ⟨_, rfl⟩, q⟩ (.inl (PyProof.noPylong_of_log2 (of_decide_eq_true hc.2)))
theorem op_modA {X : Cx} : OpR X (binaryOp .Mod) (rI (fun _ j => j ≠ 0) fun i j => .int (i.fmod j)) := by
  intro pins s σ H x y v u Q I rx ry h
  obtain ⟨i, j, rfl, rfl, hc, q⟩ := h
  obtain ⟨t, rfl⟩ := rx
  obtain ⟨t', rfl⟩ := ry
  exact PyProof.Rows.mod_int hc ⟨.int _, H, I.tok _, ⟨_, rfl⟩, q⟩
theorem cv_fdivI : Cv2 K (rI (fun _ j => divOk j = true) fun i j => .int (i.fdiv j)) fdivI := by
  intro Γ ρ σ H s v w x y z Q F rx ry e k
  unfold fdivI at e
  split at e
  · split at e
    · rename_i h
      cases e
      cases rx.int F
      cases ry.int F
      exact ⟨_, _, rfl, rfl, h, k _ H F.nx0 (.int _)⟩
    · cases e
  · cases e
theorem cv_modI : Cv2 K (rI (fun _ j => j ≠ 0) fun i j => .int (i.fmod j)) modI := by
  intro Γ ρ σ H s v w x y z Q F rx ry e k
  unfold modI at e
  split at e
  · split at e
    · cases e
    · rename_i h
      cases e
      cases rx.int F
      cases ry.int F
      exact ⟨_, _, rfl, rfl, h, k _ H F.nx0 (.int _)⟩
  · cases e
theorem cv_addS : Cv2 K (fun x y H Q => ∃ i j, x = .str i ∧ y = .str j ∧ i.length + j.length ≤ sizeLine ∧ Q (.str (i ++ j)) H) addS := by
  intro Γ ρ σ H s v w x y z Q F rx ry e k
  unfold addS at e
  split at e
  · split at e
    · rename_i h
      cases e
      cases rx.str F
      cases ry.str F
      exact ⟨_, _, rfl, rfl, lim_ok h, k _ H F.nx0 (.str _)⟩
    · cases e
  · cases e
theorem cv_addT : Cv2 K (rCatA K) addT := by
  intro Γ ρ σ H s v w x y z Q F rx ry e k
  unfold addT at e
  split at e
  · split at e
    · rename_i xs ys h
      cases e
      obtain ⟨a, vs, rfl, ta, ra⟩ := rx.tup F
      obtain ⟨b, ws, rfl, tb, rb⟩ := ry.tup F
      have l1 := ra.length
      have l2 := rb.length
      refine ⟨a, b, vs, ws, rfl, rfl, ta.sq, tb.sq, lim_ok (by omega), fun z => ?_, fun z1 z2 => ?_, fun z1 z2 => aft_tup F (ra.append rb) k⟩
      · subst z
        cases ra
        exact k _ H F.nx0 (.tup tb rb)
      · subst z2
        cases rb
        rw [List.append_nil] at k
        exact k _ H F.nx0 (.tup ta ra)
    · cases e
  · cases e
theorem cv_addL : CvF K rCat addL := by
  intro Γ ρ σ H s v w x y z Q F rx ry e k
  unfold addL at e
  split at e
  · split at e
    · rename_i xs ys h
      cases e
      obtain ⟨a, vs, rfl, ta, ra⟩ := rx.list F
      obtain ⟨b, ws, rfl, tb, rb⟩ := ry.list F
      have l1 := ra.length
      have l2 := rb.length
      exact ⟨a, b, vs, ws, rfl, rfl, ta, tb, lim_ok (by omega), aft_lst F (ra.append rb) k⟩
    · cases e
  · cases e
theorem cv_mulL : CvF K rRep mulL := by
  intro Γ ρ σ H s v w x y z Q F rx ry e k
  unfold mulL at e
  split at e
  · split at e
    · rename_i xs n h
      cases e
      obtain ⟨a, vs, rfl, ta, ra⟩ := rx.list F
      cases ry.int F
      have l1 := ra.length
      exact ⟨a, n, vs, rfl, rfl, ta, h.2.1, h.1, lim_ok (by rw [l1]; exact h.2.2), aft_lst F (ra.replicate _) k⟩
    · cases e
  · cases e
theorem cv_mulT : Cv2 K (fun x y H Q => rRepU K x y H Q ∨ rRepT K x y H Q) mulT := by
  intro Γ ρ σ H s v w x y z Q F rx ry e k
  unfold mulT at e
  split at e
  · split at e
    · rename_i xs n h
      cases e
      obtain ⟨a, vs, rfl, ta, ra⟩ := rx.tup F
      cases ry.int F
      have l1 := ra.length
      by_cases h0 : vs = []
      · subst h0
        cases ra
        refine .inl ⟨a, n, [], rfl, rfl, ta.sq, h.2.1, h.1, .inl ⟨.inl rfl, k _ H F.nx0 ?_⟩⟩
        rw [show (List.replicate n.toNat ([] : List D)).flatten = [] by simp]
        exact .tup ta .nil
      · by_cases h1 : n = 1
        · subst h1
          refine .inl ⟨a, 1, vs, rfl, rfl, ta.sq, h.2.1, h.1, .inl ⟨.inr rfl, k _ H F.nx0 ?_⟩⟩
          rw [show (List.replicate (1 : Int).toNat xs).flatten = xs by simp]
          exact .tup ta ra
        · by_cases h2 : n ≤ 0
          · refine .inl ⟨a, n, vs, rfl, rfl, ta.sq, h.2.1, h.1, .inr ⟨h0, h1, h2, aft_tup F (ds := (List.replicate n.toNat xs).flatten) ?_ k⟩⟩
            rw [Int.toNat_of_nonpos h2]
            exact .nil
          · exact .inr ⟨a, n, vs, rfl, rfl, ta.sq, h0, by omega, h.2.2.2, by omega, aft_tup F (ra.replicate _) k⟩
    · cases e
  · cases e
theorem CvF.cv {r : R2} {g : D → D → Option D} (h : CvF K r g) : Cv2 K r g := fun Γ ρ σ H s v w x y z Q F rx ry e k => h Γ ρ σ H s v w x y z Q F rx ry e fun u H' n q => k u H' n (q.rl F)
theorem CvF1.cv {r : V → Hp → VK → Prop} {g : D → Option D} (h : CvF1 K r g) : Cv1 K r g := fun Γ ρ σ H s v x z Q F rx e k => h Γ ρ σ H s v x z Q F rx e fun u H' n q => k u H' n (q.rl F)
end
def addD (x y : D) : Option D := match x, y with
  | .int i, .int j => some (.int (i + j))
  | .tuple xs, .tuple ys => if xs.length + ys.length ≤ LIM then some (.tuple (xs ++ ys)) else none
  | .list xs, .list ys => if xs.length + ys.length ≤ LIM then some (.list (xs ++ ys)) else none
  | .str i, .str j => if i.length + j.length ≤ LIM then some (.str (i ++ j)) else none
  | _, _ => none
theorem addD_eq (x y : D) : addD x y = (addI x y).or ((addT x y).or ((addL x y).or (addS x y))) := by
  cases x <;> cases y <;> simp [addD, addI, addT, addL, addS]
def mulD (x y : D) : Option D := match x, y with
  | .int i, .int j => if mulOk i j = true then some (.int (i * j)) else none
  | .list xs, .int k => if k < 2 ^ 63 ∧ -(2 ^ 63) ≤ k ∧ xs.length * k.toNat ≤ LIM then some (.list (List.replicate k.toNat xs).flatten) else none
  | .tuple xs, .int k => if k < 2 ^ 63 ∧ -(2 ^ 63) ≤ k ∧ xs.length ≤ 1000 ∧ k ≤ 1000 then some (.tuple (List.replicate k.toNat xs).flatten) else none
  | _, _ => none
theorem mulD_eq (x y : D) : mulD x y = (mulI x y).or ((mulL x y).or (mulT x y)) := by
  cases x <;> cases y <;> simp [mulD, mulI, mulL, mulT]
section
variable {X : Cx} {a b : Expr} {fa fb : Ev → M D} {pos : Pos}
theorem se_add (ha : ST X a fa) (hb : ST X b fb) : SE X (.BinOp a .Add b pos) (eBin addD fa fb) := by
  have e : addD = fun x y => (addI x y).or ((addT x y).or ((addL x y).or (addS x y))) := by funext x y; exact addD_eq x y
  rw [e]
  exact se_op (OpR.or op_add (OpR.or op_catA (OpR.or op_cat op_add_str))) (cv_addI.or (cv_addT.or (cv_addL.cv.or cv_addS))) ha hb
theorem sf_add (ha : ST X a fa) (hb : ST X b fb) : SF X (.BinOp a .Add b pos) (eBin addL fa fb) := sf_op op_cat cv_addL ha hb
theorem se_sub (ha : ST X a fa) (hb : ST X b fb) : SE X (.BinOp a .Sub b pos) (eBin subI fa fb) := se_op op_sub cv_subI ha hb
theorem se_mul (ha : ST X a fa) (hb : ST X b fb) : SE X (.BinOp a .Mult b pos) (eBin mulD fa fb) := by
  have e : mulD = fun x y => (mulI x y).or ((mulL x y).or (mulT x y)) := by funext x y; exact mulD_eq x y
  rw [e]
  exact se_op (OpR.or op_mulA (OpR.or op_rep (OpR.or op_repU op_repT))) (cv_mulI.or (cv_mulL.cv.or cv_mulT)) ha hb
theorem sf_mul (ha : ST X a fa) (hb : ST X b fb) : SF X (.BinOp a .Mult b pos) (eBin mulL fa fb) := sf_op op_rep cv_mulL ha hb
theorem se_fdiv (ha : ST X a fa) (hb : ST X b fb) : SE X (.BinOp a .FloorDiv b pos) (eBin fdivI fa fb) := se_op op_fdivA cv_fdivI ha hb
theorem se_mod (ha : ST X a fa) (hb : ST X b fb) : SE X (.BinOp a .Mod b pos) (eBin modI fa fb) := se_op op_modA cv_modI ha hb
theorem se_pow (ha : ST X a fa) (hb : ST X b fb) : SE X (.BinOp a .Pow b pos) (eBin powI fa fb) := se_op op_pow cv_powI ha hb
theorem se_shl (ha : ST X a fa) (hb : ST X b fb) : SE X (.BinOp a .LShift b pos) (eBin shlI fa fb) := se_op op_shl cv_shlI ha hb
theorem cv_negI {K : PySem.W.Frag} : Cv1 K (rU fun i => .int (-i)) negI := by
  intro Γ ρ σ H s v x z Q F rx e k
  unfold negI at e
  split at e
  · cases e
    cases rx.int F
    exact ⟨_, rfl, k _ H F.nx0 (.int _)⟩
  · cases e
theorem se_neg (ha : ST X a fa) : SE X (.UnaryOp .USub a pos) (eUn negI fa) := se_un un_neg cv_negI ha
end
end Sm

set_option Elab.async false
set_option linter.all false
set_option maxRecDepth 100000
set_option maxHeartbeats 4000000
namespace Sm
open PySem PySem.Spec L2

/-! ### comparisons -/
section
variable {K : PySem.W.Frag} {A : Addr → Prop} {H : Hp}
mutual
theorem Rl.dp : ∀ (x : D) (v : V), Rl K A H v x → x.canLay0 = true → Dp K H v x
  | .none, _, h, _ => by cases h; exact .non
  | .bool _, _, h, _ => by cases h; exact .bl _
  | .int _, _, h, _ => by cases h; exact .int _
  | .str _, _, h, _ => by cases h; exact .str _
  | .list ds, _, h, c => by
    cases h with
    | lst e n r => exact .lst (.inl (.inl e)) (RlA.dp ds _ r (by simpa [PyData.canLay0] using c))
  | .tuple ds, _, h, c => by
    cases h with
    | tup e r => exact .tup e.sq (RlA.dp ds _ r (by simpa [PyData.canLay0] using c))
  | .dict _, _, h, c => by simp [PyData.canLay0] at c
theorem RlA.dp : ∀ (ds : List D) (vs : List V), RlA K A H vs ds → PyData.canLayAll0 ds = true → DpAll K H vs ds
  | [], _, h, _ => by cases h; exact .nil
  | x :: ds, _, h, c => by
    cases h with
    | cons h1 h2 =>
      have c' : x.canLay0 = true ∧ PyData.canLayAll0 ds = true := by simpa [PyData.canLayAll0] using c
      exact .cons (Rl.dp x _ h1 c'.1) (RlA.dp ds _ h2 c'.2)
end
end
theorem RlT.dp {K : PySem.W.Frag} {Γ : Gh} {ρ : Ev} {σ : L2.St} {H : Hp} {s : Ss} {v : V} {x : D} (F : FR K Γ ρ σ H s) (h : RlT K Γ ρ σ H v x) (c : x.canLay0 = true) : Dp K H v x := by
  rcases h with h | ⟨i, p, h1, h2, rfl⟩
  · exact h.dp x v c
  · obtain ⟨q, e, _, _, vs, ds', rfl, e1, r⟩ := F.own i _ h1
    rw [h2] at e
    cases e
    exact .lst (.inl (.inl e1)) (RlA.dp ds' _ r (by simpa [PyData.canLay0] using c))
/-- x == y -/
def eqD (x y : D) : Option Bool := match x, y with
  | .str a, .str b => some (a == b)
  | x, y => if (SeqAt.shaped x && SeqAt.shaped y) = true then some (PyData.eqv x y) else none
def eqB (x y : D) : Option D := (eqD x y).map PyData.bool
def neB (x y : D) : Option D := (eqD x y).map fun b => PyData.bool (!b)
def cmpI (p : Int → Int → Bool) (x y : D) : Option D := match x, y with
  | .int i, .int j => some (.bool (p i j))
  | _, _ => none
abbrev ltI : D → D → Option D := cmpI fun i j => decide (i < j)
abbrev leI : D → D → Option D := cmpI fun i j => decide (i ≤ j)
abbrev gtI : D → D → Option D := cmpI fun i j => decide (j < i)
abbrev geI : D → D → Option D := cmpI fun i j => decide (j ≤ i)
/-- x in c -/
def inD (x c : D) : Option Bool := match c with
  | .list ys => if (SeqAt.shaped x && SeqAt.shaped (.list ys)) = true then some (ys.any fun y => PyData.eqv y x) else none
  | .tuple ys => if (SeqAt.shaped x && SeqAt.shaped (.tuple ys)) = true then some (ys.any fun y => PyData.eqv y x) else none
  | _ => none
def inB (x y : D) : Option D := (inD x y).map PyData.bool
def ninB (x y : D) : Option D := (inD x y).map fun b => PyData.bool (!b)
/-- x is y (y: None, True, False) -/
def isNon : D → Bool
  | .none => true
  | _ => false
def isD (x y : D) : Option Bool := match y with
  | .none => some (isNon x)
  | .bool b => (match x with
    | .bool a => some (decide (a = b))
    | _ => none)
  | _ => none
def isB (x y : D) : Option D := (isD x y).map PyData.bool
def nisB (x y : D) : Option D := (isD x y).map fun b => PyData.bool (!b)
section
variable {K : PySem.W.Frag}
def rEqA (K : PySem.W.Frag) : R2 := fun x y H Q => rEq x y H Q ∨ rEqD K x y H Q
def rNeA (K : PySem.W.Frag) : R2 := fun x y H Q => rNe x y H Q ∨ rNeD K x y H Q
theorem eqD_cases {x y : D} {b : Bool} (h : eqD x y = some b) : (∃ a c, x = .str a ∧ y = .str c ∧ b = (a == c)) ∨ (SeqAt.shaped x = true ∧ SeqAt.shaped y = true ∧ b = PyData.eqv x y) := by
  unfold eqD at h
  split at h
  · rename_i a c
    cases h
    exact .inl ⟨a, c, rfl, rfl, rfl⟩
  · split at h
    · rename_i q
      cases h
      rw [Bool.and_eq_true] at q
      exact .inr ⟨q.1, q.2, rfl⟩
    · cases h
theorem cv_eq : Cv2 K (rEqA K) eqB := by
  intro Γ ρ σ H s v w x y z Q F rx ry e k
  unfold eqB at e
  obtain ⟨b, e', rfl⟩ := Option.map_eq_some_iff.mp e
  rcases eqD_cases e' with ⟨a, c, rfl, rfl, rfl⟩ | ⟨h1, h2, rfl⟩
  · cases rx.str F
    cases ry.str F
    refine .inl ⟨rfl, ?_⟩
    rw [dec_str]
    exact k _ H F.nx0 (.bl _)
  · exact .inr ⟨x, y, rx.dp F (SeqAt.canLay_of_shaped h1), ry.dp F (SeqAt.canLay_of_shaped h2), h1, h2, k _ H F.nx0 (.bl _)⟩
theorem cv_ne : Cv2 K (rNeA K) neB := by
  intro Γ ρ σ H s v w x y z Q F rx ry e k
  unfold neB at e
  obtain ⟨b, e', rfl⟩ := Option.map_eq_some_iff.mp e
  rcases eqD_cases e' with ⟨a, c, rfl, rfl, rfl⟩ | ⟨h1, h2, rfl⟩
  · cases rx.str F
    cases ry.str F
    refine .inl ⟨rfl, ?_⟩
    rw [dec_str]
    exact k _ H F.nx0 (.bl _)
  · exact .inr ⟨x, y, rx.dp F (SeqAt.canLay_of_shaped h1), ry.dp F (SeqAt.canLay_of_shaped h2), h1, h2, k _ H F.nx0 (.bl _)⟩
theorem cv_cmp {p : Int → Int → Bool} : Cv2 K (rI0 fun i j => .bl (p i j)) (cmpI p) := by
  intro Γ ρ σ H s v w x y z Q F rx ry e k
  unfold cmpI at e
  split at e
  · cases e
    cases rx.int F
    cases ry.int F
    exact ⟨_, _, rfl, rfl, k _ H F.nx0 (.bl _)⟩
  · cases e
def rInA (K : PySem.W.Frag) (neg : Bool) : R2 := fun x y H Q => ∃ (d : D) (ds : List D), Dp K H x d ∧ (Dp K H y (.list ds) ∧ SeqAt.shaped (.list ds) = true ∨ Dp K H y (.tuple ds) ∧ SeqAt.shaped (.tuple ds) = true) ∧ SeqAt.shaped d = true ∧ Q (.bl (if neg then !(ds.any fun z => PyData.eqv z d) else ds.any fun z => PyData.eqv z d)) H
theorem op_inA {X : Cx} (hu : X.A.units + 70 < cLine) : OpR X (compareOp .In) (rInA X.K false) := by
  intro pins s σ H x y v u Q I rx ry h
  obtain ⟨d, ds, hd, hc, sd, q⟩ := h
  obtain ⟨as, r1⟩ := Dp.reads I d x v hd rx
  rcases hc with ⟨hc, sc⟩ | ⟨hc, sc⟩
  · obtain ⟨bs, r2⟩ := Dp.reads I _ y u hc ry
    exact SeqAt.in_list_reads r2 r1 (SeqAt.canLay_of_shaped sc) (SeqAt.canLay_of_shaped sd) (PyProof.Rows.room_in_shaped sd (by omega)) ⟨.bl _, H, I, rfl, q⟩
  · obtain ⟨bs, r2⟩ := Dp.reads I _ y u hc ry
    exact SeqAt.in_tuple_reads r2 r1 (SeqAt.canLay_of_shaped sc) (SeqAt.canLay_of_shaped sd) (PyProof.Rows.room_in_shaped sd (by omega)) ⟨.bl _, H, I, rfl, q⟩
theorem op_ninA {X : Cx} (hu : X.A.units + 70 < cLine) : OpR X (compareOp .NotIn) (rInA X.K true) := by
  intro pins s σ H x y v u Q I rx ry h
  obtain ⟨d, ds, hd, hc, sd, q⟩ := h
  obtain ⟨as, r1⟩ := Dp.reads I d x v hd rx
  rcases hc with ⟨hc, sc⟩ | ⟨hc, sc⟩
  · obtain ⟨bs, r2⟩ := Dp.reads I _ y u hc ry
    exact SeqAt.notIn_list_reads r2 r1 (SeqAt.canLay_of_shaped sc) (SeqAt.canLay_of_shaped sd) (PyProof.Rows.room_in_shaped sd (by omega)) ⟨.bl _, H, I, rfl, q⟩
  · obtain ⟨bs, r2⟩ := Dp.reads I _ y u hc ry
    exact SeqAt.notIn_tuple_reads r2 r1 (SeqAt.canLay_of_shaped sc) (SeqAt.canLay_of_shaped sd) (PyProof.Rows.room_in_shaped sd (by omega)) ⟨.bl _, H, I, rfl, q⟩
theorem inD_cases {x c : D} {b : Bool} (h : inD x c = some b) : ∃ ds, (c = .list ds ∨ c = .tuple ds) ∧ SeqAt.shaped x = true ∧ SeqAt.shaped c = true ∧ b = ds.any fun y => PyData.eqv y x := by
  unfold inD at h
  split at h
  · split at h
    · rename_i q
      cases h
      rw [Bool.and_eq_true] at q
      exact ⟨_, .inl rfl, q.1, q.2, rfl⟩
    · cases h
  · split at h
    · rename_i q
      cases h
      rw [Bool.and_eq_true] at q
      exact ⟨_, .inr rfl, q.1, q.2, rfl⟩
    · cases h
  · cases h
theorem cv_in : Cv2 K (rInA K false) inB := by
  intro Γ ρ σ H s v w x y z Q F rx ry e k
  unfold inB at e
  obtain ⟨b, e', rfl⟩ := Option.map_eq_some_iff.mp e
  obtain ⟨ds, hc, h1, h2, rfl⟩ := inD_cases e'
  rcases hc with rfl | rfl
  · exact ⟨x, ds, rx.dp F (SeqAt.canLay_of_shaped h1), .inl ⟨ry.dp F (SeqAt.canLay_of_shaped h2), h2⟩, h1, k _ H F.nx0 (.bl _)⟩
  · exact ⟨x, ds, rx.dp F (SeqAt.canLay_of_shaped h1), .inr ⟨ry.dp F (SeqAt.canLay_of_shaped h2), h2⟩, h1, k _ H F.nx0 (.bl _)⟩
theorem cv_nin : Cv2 K (rInA K true) ninB := by
  intro Γ ρ σ H s v w x y z Q F rx ry e k
  unfold ninB at e
  obtain ⟨b, e', rfl⟩ := Option.map_eq_some_iff.mp e
  obtain ⟨ds, hc, h1, h2, rfl⟩ := inD_cases e'
  rcases hc with rfl | rfl
  · exact ⟨x, ds, rx.dp F (SeqAt.canLay_of_shaped h1), .inl ⟨ry.dp F (SeqAt.canLay_of_shaped h2), h2⟩, h1, k _ H F.nx0 (.bl _)⟩
  · exact ⟨x, ds, rx.dp F (SeqAt.canLay_of_shaped h1), .inr ⟨ry.dp F (SeqAt.canLay_of_shaped h2), h2⟩, h1, k _ H F.nx0 (.bl _)⟩
end
section
variable {X : Cx} {a b : Expr} {fa fb : Ev → M D} {pos : Pos}
theorem se_eq (hu : X.A.units + 70 < cLine) (ha : ST X a fa) (hb : ST X b fb) : SE X (.Compare a [.Eq] [b] pos) (eBin eqB fa fb) := se_cmp (OpR.or op_eq (op_eqD (by omega))) cv_eq (nobehind _ (by decide) (by decide)) ha hb
theorem se_ne (hu : X.A.units + 70 < cLine) (ha : ST X a fa) (hb : ST X b fb) : SE X (.Compare a [.NotEq] [b] pos) (eBin neB fa fb) := se_cmp (OpR.or op_ne (op_neD (by omega))) cv_ne (nobehind _ (by decide) (by decide)) ha hb
theorem se_lt (ha : ST X a fa) (hb : ST X b fb) : SE X (.Compare a [.Lt] [b] pos) (eBin ltI fa fb) := se_cmp op_lt cv_cmp (nobehind _ (by decide) (by decide)) ha hb
theorem se_le (ha : ST X a fa) (hb : ST X b fb) : SE X (.Compare a [.LtE] [b] pos) (eBin leI fa fb) := se_cmp op_le cv_cmp (nobehind _ (by decide) (by decide)) ha hb
theorem se_gt (ha : ST X a fa) (hb : ST X b fb) : SE X (.Compare a [.Gt] [b] pos) (eBin gtI fa fb) := se_cmp op_gt cv_cmp (nobehind _ (by decide) (by decide)) ha hb
theorem se_ge (ha : ST X a fa) (hb : ST X b fb) : SE X (.Compare a [.GtE] [b] pos) (eBin geI fa fb) := se_cmp op_ge cv_cmp (nobehind _ (by decide) (by decide)) ha hb
theorem se_in (hu : X.A.units + 70 < cLine) (ha : ST X a fa) (hb : ST X b fb) (hm : behindInMarks .In b = false := by rfl) : SE X (.Compare a [.In] [b] pos) (eBin inB fa fb) := se_cmp (op_inA hu) cv_in hm ha hb
theorem se_nin (hu : X.A.units + 70 < cLine) (ha : ST X a fa) (hb : ST X b fb) (hm : behindInMarks .NotIn b = false := by rfl) : SE X (.Compare a [.NotIn] [b] pos) (eBin ninB fa fb) := se_cmp (op_ninA hu) cv_nin hm ha hb
end
/-! ### is -/
section
variable {K : PySem.W.Frag}
def rIsA : R2 := fun x y H Q => (y = .non ∧ Q (.bl (decide (x = .non))) H) ∨ rIsB x y H Q
def rNisA : R2 := fun x y H Q => (y = .non ∧ Q (.bl (!decide (x = .non))) H) ∨ rNotB x y H Q
theorem is_non {Γ : Gh} {ρ : Ev} {σ : L2.St} {H : Hp} {s : Ss} {v : V} {x : D} (F : FR K Γ ρ σ H s) (h : RlT K Γ ρ σ H v x) : isNon x = decide (v = V.non) := by
  rcases h with h | ⟨i, p, h1, h2, rfl⟩
  · cases h <;> simp [isNon]
  · obtain ⟨q, e, _, _, vs, ds', rfl, e1, r⟩ := F.own i _ h1
    simp [isNon]
theorem isD_cases {x y : D} {b : Bool} (h : isD x y = some b) : (y = .none ∧ b = isNon x) ∨ ∃ c d, x = .bool c ∧ y = .bool d ∧ b = decide (c = d) := by
  cases y with
  | none =>
    left
    exact ⟨rfl, (Option.some.inj h).symm⟩
  | bool d =>
    cases x with
    | bool c => exact .inr ⟨c, d, rfl, rfl, (Option.some.inj h).symm⟩
    | _ => cases h
  | _ => cases h
theorem cv_is : Cv2 K rIsA isB := by
  intro Γ ρ σ H s v w x y z Q F rx ry e k
  unfold isB at e
  obtain ⟨b, e', rfl⟩ := Option.map_eq_some_iff.mp e
  rcases isD_cases e' with ⟨rfl, rfl⟩ | ⟨c, d, rfl, rfl, rfl⟩
  · cases ry.none F
    refine .inl ⟨rfl, ?_⟩
    rw [← is_non F rx]
    exact k _ H F.nx0 (.bl _)
  · cases rx.bool F
    cases ry.bool F
    exact .inr ⟨_, _, rfl, rfl, k _ H F.nx0 (.bl _)⟩
theorem cv_nis : Cv2 K rNisA nisB := by
  intro Γ ρ σ H s v w x y z Q F rx ry e k
  unfold nisB at e
  obtain ⟨b, e', rfl⟩ := Option.map_eq_some_iff.mp e
  rcases isD_cases e' with ⟨rfl, rfl⟩ | ⟨c, d, rfl, rfl, rfl⟩
  · cases ry.none F
    refine .inl ⟨rfl, ?_⟩
    rw [← is_non F rx]
    exact k _ H F.nx0 (.bl _)
  · cases rx.bool F
    cases ry.bool F
    exact .inr ⟨_, _, rfl, rfl, k _ H F.nx0 (.bl _)⟩
end
section
variable {X : Cx} {a b : Expr} {fa fb : Ev → M D} {pos : Pos}
theorem se_is (ha : ST X a fa) (hb : ST X b fb) : SE X (.Compare a [.Is] [b] pos) (eBin isB fa fb) := se_cmp (OpR.or op_isN op_isBl) cv_is (nobehind _ (by decide) (by decide)) ha hb
theorem se_nis (ha : ST X a fa) (hb : ST X b fb) : SE X (.Compare a [.IsNot] [b] pos) (eBin nisB fa fb) := se_cmp (OpR.or op_notN op_notBl) cv_nis (nobehind _ (by decide) (by decide)) ha hb
end

/-! ### tests -/
def asB : D → Option Bool
  | .bool b => some b
  | _ => none
/-- a bool's value, tested -/
def bV (f : Ev → M D) : Ev → M Bool := fun ρ => bnd (f ρ) fun x => ofO (asB x)
theorem asB_some {x : D} {b : Bool} (h : asB x = some b) : x = .bool b := by
  cases x with
  | bool c => cases h; rfl
  | _ => cases h
section
variable {X : Cx} {e a b c : Expr} {f fa fb fc : Ev → M D} {ga gb gc : Ev → M Bool} {rest : List Expr} {pos : Pos}
theorem test_imp {K : PySem.W.Frag} {f : Ev → M D} {σ : L2.St} {H : Hp} {Q : Bool → Hp → Prop} (h : tB K (bV f) σ H Q) : tE K f σ H (fun x H1 => ∃ c, x = V.bl c ∧ Q c H1) := by
  obtain ⟨Γ, ρ, s, z, s', F, e, k⟩ := h
  obtain ⟨x, s1, e1, e⟩ := bnd_some e
  obtain ⟨e3, rfl⟩ := ofO_some e
  cases asB_some e3
  refine ⟨Γ, ρ, s, _, s1, F, e1, fun v H1 n1 r1 => ?_⟩
  cases r1
  exact ⟨_, rfl, k H1 n1⟩
theorem sb_val (h : SE X e f) (he : ∀ whole, isTrue e X.env whole = (do let v ← whole; standAt e.pos; holding [v] (truthy v)) := by intro _; rfl) : SB X e (bV f) := pt_imp (pt_val h he) fun _ _ _ q => test_imp q
theorem sb_cmp {r : R2} {g : D → D → Option D} {op : CmpOp} (ho : OpR X (compareOp op) r) (hc : Cv2 X.K r g) (hm : behindInMarks op b = false) (ha : ST X a fa) (hb : ST X b fb) : SB X (.Compare a [op] [b] pos) (bV (eBin g fa fb)) :=
  pt_imp (pt_cmpR ho ha hb hm) fun _ _ _ q => bin_imp hc (test_imp q)
theorem sb_eq (hu : X.A.units + 70 < cLine) (ha : ST X a fa) (hb : ST X b fb) : SB X (.Compare a [.Eq] [b] pos) (bV (eBin eqB fa fb)) := sb_cmp (OpR.or op_eq (op_eqD (by omega))) cv_eq (nobehind _ (by decide) (by decide)) ha hb
theorem sb_ne (hu : X.A.units + 70 < cLine) (ha : ST X a fa) (hb : ST X b fb) : SB X (.Compare a [.NotEq] [b] pos) (bV (eBin neB fa fb)) := sb_cmp (OpR.or op_ne (op_neD (by omega))) cv_ne (nobehind _ (by decide) (by decide)) ha hb
theorem sb_lt (ha : ST X a fa) (hb : ST X b fb) : SB X (.Compare a [.Lt] [b] pos) (bV (eBin ltI fa fb)) := sb_cmp op_lt cv_cmp (nobehind _ (by decide) (by decide)) ha hb
theorem sb_le (ha : ST X a fa) (hb : ST X b fb) : SB X (.Compare a [.LtE] [b] pos) (bV (eBin leI fa fb)) := sb_cmp op_le cv_cmp (nobehind _ (by decide) (by decide)) ha hb
theorem sb_gt (ha : ST X a fa) (hb : ST X b fb) : SB X (.Compare a [.Gt] [b] pos) (bV (eBin gtI fa fb)) := sb_cmp op_gt cv_cmp (nobehind _ (by decide) (by decide)) ha hb
theorem sb_ge (ha : ST X a fa) (hb : ST X b fb) : SB X (.Compare a [.GtE] [b] pos) (bV (eBin geI fa fb)) := sb_cmp op_ge cv_cmp (nobehind _ (by decide) (by decide)) ha hb
theorem sb_in (hu : X.A.units + 70 < cLine) (ha : ST X a fa) (hb : ST X b fb) (hm : behindInMarks .In b = false := by rfl) : SB X (.Compare a [.In] [b] pos) (bV (eBin inB fa fb)) := sb_cmp (op_inA hu) cv_in hm ha hb
theorem sb_nin (hu : X.A.units + 70 < cLine) (ha : ST X a fa) (hb : ST X b fb) (hm : behindInMarks .NotIn b = false := by rfl) : SB X (.Compare a [.NotIn] [b] pos) (bV (eBin ninB fa fb)) := sb_cmp (op_ninA hu) cv_nin hm ha hb
theorem sb_is (ha : ST X a fa) (hb : ST X b fb) : SB X (.Compare a [.Is] [b] pos) (bV (eBin isB fa fb)) := sb_cmp (OpR.or op_isN op_isBl) cv_is (nobehind _ (by decide) (by decide)) ha hb
theorem sb_nis (ha : ST X a fa) (hb : ST X b fb) : SB X (.Compare a [.IsNot] [b] pos) (bV (eBin nisB fa fb)) := sb_cmp (OpR.or op_notN op_notBl) cv_nis (nobehind _ (by decide) (by decide)) ha hb

/-- a op b op' c -/
def eChain (g g' : D → D → Option D) (fa fb fc : Ev → M D) : Ev → M D := fun ρ => bnd (fa ρ) fun x => bnd (fb ρ) fun y => bnd (ofO ((g x y).bind asB)) fun k => if k = true then bnd (fc ρ) fun z => ofO (g' y z) else ret (.bool false)
theorem chain_imp {r r' : R2} {g g' : D → D → Option D} (hc : Cv2 X.K r g) (hc' : Cv2 X.K r' g') {σ : L2.St} {H : Hp} {Q : VK} (h : tE X.K (eChain g g' fa fb fc) σ H Q) : tChain r r' (tT X.K fa) (tT X.K fb) (tT X.K fc) σ H Q := by
  obtain ⟨Γ, ρ, s, z, s', F, e, k⟩ := h
  obtain ⟨x, s1, e1, e⟩ := bnd_some e
  obtain ⟨y, s2, e2, e⟩ := bnd_some e
  obtain ⟨b, s3, e3, e⟩ := bnd_some e
  obtain ⟨e3', rfl⟩ := ofO_some e3
  obtain ⟨w0, e3, e4⟩ := Option.bind_eq_some_iff.mp e3'
  cases asB_some e4
  refine ⟨Γ, ρ, s, x, s1, F, e1, fun v H1 n1 r1 => ⟨Γ, ρ, s1, y, s2, F.nx n1, e2, fun w H2 n2 r2 => ?_⟩⟩
  have F2 := (F.nx n1).nx n2
  refine hc Γ ρ σ H2 s2 v w x y _ _ F2 (r1.xs (F.nx n1) n2.xs) r2 e3 fun u H3 n3 r3 => ?_
  cases r3
  refine ⟨_, rfl, ?_⟩
  cases b with
  | false =>
    rw [if_neg Bool.false_ne_true] at e ⊢
    obtain ⟨rfl, rfl⟩ := ret_some e
    exact k _ H3 ((n1.trans n2).trans n3) (.bl false)
  | true =>
    rw [if_pos rfl] at e ⊢
    obtain ⟨z', s4, e5, e⟩ := bnd_some e
    obtain ⟨e6, rfl⟩ := ofO_some e
    have F3 := F2.nx n3
    refine ⟨Γ, ρ, s2, z', s4, F3, e5, fun w' H4 n4 r4 => ?_⟩
    exact hc' Γ ρ σ H4 s4 w w' y z' z Q (F3.nx n4) ((r2.xs F2 n3.xs).xs F3 n4.xs) r4 e6 fun u H' n5 r5 => k u H' ((((n1.trans n2).trans n3).trans n4).trans n5) r5
theorem se_chain {op op' : CmpOp} {r r' : R2} {g g' : D → D → Option D} (ho : OpR X (compareOp op) r) (ho' : OpR X (compareOp op') r') (hc : Cv2 X.K r g) (hc' : Cv2 X.K r' g') (ha : ST X a fa) (hb : ST X b fb) (hd : ST X c fc)
    (hm : lastMarks [op, op'] [b, c] = false := by with_unfolding_all rfl) : SE X (.Compare a [op, op'] [b, c] pos) (eChain g g' fa fb fc) := pe_imp (pe_chain ho ho' ha hb hd hm) fun _ _ _ h => chain_imp hc hc' h
theorem sb_chain {op op' : CmpOp} {r r' : R2} {g g' : D → D → Option D} (ho : OpR X (compareOp op) r) (ho' : OpR X (compareOp op') r') (hc : Cv2 X.K r g) (hc' : Cv2 X.K r' g') (ha : ST X a fa) (hb : ST X b fb) (hd : ST X c fc)
    (hm : lastMarks [op, op'] [b, c] = false := by with_unfolding_all rfl) : SB X (.Compare a [op, op'] [b, c] pos) (bV (eChain g g' fa fb fc)) := pt_imp (pt_chain ho ho' ha hb hd hm) fun _ _ _ h => chain_imp hc hc' (test_imp h)

/-! ### and, or, not, a if t else b -/
def bAnd (ga gb : Ev → M Bool) : Ev → M Bool := fun ρ => bnd (ga ρ) fun k => if k = true then gb ρ else ret false
def bOr (ga gb : Ev → M Bool) : Ev → M Bool := fun ρ => bnd (ga ρ) fun k => if k = true then ret true else gb ρ
def bNot (ga : Ev → M Bool) : Ev → M Bool := fun ρ => bnd (ga ρ) fun k => ret (!k)
theorem sw_and1 (ha : SB X a ga) : SW X (.BoolOp .And [a] pos) ga := pw_and1 ha
theorem sw_or1 (ha : SB X a ga) : SW X (.BoolOp .Or [a] pos) ga := pw_or1 ha
theorem sw_and (ha : SB X a ga) (hb : SW X (.BoolOp .And (b :: rest) pos) gb) : SW X (.BoolOp .And (a :: b :: rest) pos) (bAnd ga gb) := pw_imp (pw_and ha hb) fun σ H Q ⟨Γ, ρ, s, z, s', F, e, k⟩ => by
  obtain ⟨x, s1, e1, e⟩ := bnd_some e
  refine ⟨Γ, ρ, s, x, s1, F, e1, fun H1 n1 => ?_⟩
  cases x with
  | true =>
    rw [if_pos rfl] at e ⊢
    exact ⟨Γ, ρ, s1, z, s', F.nx n1, e, fun H' n' => k H' (n1.trans n')⟩
  | false =>
    rw [if_neg Bool.false_ne_true] at e ⊢
    obtain ⟨rfl, rfl⟩ := ret_some e
    exact k H1 n1
theorem sw_or (ha : SB X a ga) (hb : SW X (.BoolOp .Or (b :: rest) pos) gb) : SW X (.BoolOp .Or (a :: b :: rest) pos) (bOr ga gb) := pw_imp (pw_or ha hb) fun σ H Q ⟨Γ, ρ, s, z, s', F, e, k⟩ => by
  obtain ⟨x, s1, e1, e⟩ := bnd_some e
  refine ⟨Γ, ρ, s, x, s1, F, e1, fun H1 n1 => ?_⟩
  cases x with
  | true =>
    rw [if_pos rfl] at e ⊢
    obtain ⟨rfl, rfl⟩ := ret_some e
    exact k H1 n1
  | false =>
    rw [if_neg Bool.false_ne_true] at e ⊢
    exact ⟨Γ, ρ, s1, z, s', F.nx n1, e, fun H' n' => k H' (n1.trans n')⟩
theorem sb_w (h : SW X a ga) : SB X a ga := h.pt
theorem sb_not (ha : SB X a ga) : SB X (.UnaryOp .Not a pos) (bNot ga) := pt_imp (pt_not ha) fun σ H Q ⟨Γ, ρ, s, z, s', F, e, k⟩ => by
  obtain ⟨x, s1, e1, e⟩ := bnd_some e
  obtain ⟨rfl, rfl⟩ := ret_some e
  exact ⟨Γ, ρ, s, x, s1, F, e1, fun H1 n1 => k H1 n1⟩
/-- as values -/
def eAnd (fa fb : Ev → M D) : Ev → M D := fun ρ => bnd (bV fa ρ) fun k => if k = true then fb ρ else ret (.bool false)
def eOr (fa fb : Ev → M D) : Ev → M D := fun ρ => bnd (bV fa ρ) fun k => if k = true then ret (.bool true) else fb ρ
def eNot (fa : Ev → M D) : Ev → M D := fun ρ => bnd (bV fa ρ) fun k => ret (.bool (!k))
theorem se_one {op} (h : SE X a fa) : SE X (.BoolOp op [a] pos) fa := pe_one h
theorem se_and (ha : SE X a fa) (hb : SE X (.BoolOp .And (b :: rest) pos) fb) : SE X (.BoolOp .And (a :: b :: rest) pos) (eAnd fa fb) := pe_imp (pe_and ha hb) fun σ H Q ⟨Γ, ρ, s, z, s', F, e, k⟩ => by
  obtain ⟨x, s1, e1, e⟩ := bnd_some e
  refine test_imp (Q := fun c H1 => if c = true then tE X.K fb σ H1 Q else Q (.bl false) H1) ⟨Γ, ρ, s, x, s1, F, e1, fun H1 n1 => ?_⟩
  cases x with
  | true =>
    rw [if_pos rfl] at e ⊢
    exact ⟨Γ, ρ, s1, z, s', F.nx n1, e, fun v H' n' r => k v H' (n1.trans n') r⟩
  | false =>
    rw [if_neg Bool.false_ne_true] at e ⊢
    obtain ⟨rfl, rfl⟩ := ret_some e
    exact k _ H1 n1 (.bl false)
theorem se_or (ha : SE X a fa) (hb : SE X (.BoolOp .Or (b :: rest) pos) fb) : SE X (.BoolOp .Or (a :: b :: rest) pos) (eOr fa fb) := pe_imp (pe_or ha hb) fun σ H Q ⟨Γ, ρ, s, z, s', F, e, k⟩ => by
  obtain ⟨x, s1, e1, e⟩ := bnd_some e
  refine test_imp (Q := fun c H1 => if c = true then Q (.bl true) H1 else tE X.K fb σ H1 Q) ⟨Γ, ρ, s, x, s1, F, e1, fun H1 n1 => ?_⟩
  cases x with
  | true =>
    rw [if_pos rfl] at e ⊢
    obtain ⟨rfl, rfl⟩ := ret_some e
    exact k _ H1 n1 (.bl true)
  | false =>
    rw [if_neg Bool.false_ne_true] at e ⊢
    exact ⟨Γ, ρ, s1, z, s', F.nx n1, e, fun v H' n' r => k v H' (n1.trans n') r⟩
theorem se_not (ha : SE X a fa) : SE X (.UnaryOp .Not a pos) (eNot fa) := pe_imp (pe_not ha) fun σ H Q ⟨Γ, ρ, s, z, s', F, e, k⟩ => by
  obtain ⟨x, s1, e1, e⟩ := bnd_some e
  obtain ⟨rfl, rfl⟩ := ret_some e
  exact test_imp (Q := fun c H1 => Q (.bl (!c)) H1) ⟨Γ, ρ, s, x, s1, F, e1, fun H1 n1 => k _ H1 n1 (.bl _)⟩
def eIf (g : Ev → M Bool) (fa fb : Ev → M D) : Ev → M D := fun ρ => bnd (g ρ) fun k => if k = true then fa ρ else fb ρ
theorem if_imp {K : PySem.W.Frag} {σ : L2.St} {H : Hp} {Q : VK} {g : Ev → M Bool} (h : tE K (eIf g fa fb) σ H Q) : tIf (tB K g) (tE K fa) (tE K fb) σ H Q := by
  obtain ⟨Γ, ρ, s, z, s', F, e, k⟩ := h
  obtain ⟨x, s1, e1, e⟩ := bnd_some e
  refine ⟨Γ, ρ, s, x, s1, F, e1, fun H1 n1 => ?_⟩
  cases x with
  | true =>
    rw [if_pos rfl] at e ⊢
    exact ⟨Γ, ρ, s1, z, s', F.nx n1, e, fun v H' n' r => k v H' (n1.trans n') r⟩
  | false =>
    rw [if_neg Bool.false_ne_true] at e ⊢
    exact ⟨Γ, ρ, s1, z, s', F.nx n1, e, fun v H' n' r => k v H' (n1.trans n') r⟩
theorem se_if (hc : SB X c ga) (ha : SE X a fa) (hb : SE X b fb) : SE X (.IfExp c a b pos) (eIf ga fa fb) := pe_imp (pe_ifExp hc ha hb) fun _ _ _ h => if_imp h
theorem sf_if (hc : SB X c ga) (ha : SF X a fa) (hb : SF X b fb) : SF X (.IfExp c a b pos) (eIf ga fa fb) := pe_imp (pe_ifExp hc ha hb) fun σ H Q ⟨Γ, ρ, s, z, s', F, e, k⟩ => by
  obtain ⟨x, s1, e1, e⟩ := bnd_some e
  refine ⟨Γ, ρ, s, x, s1, F, e1, fun H1 n1 => ?_⟩
  cases x with
  | true =>
    rw [if_pos rfl] at e ⊢
    exact ⟨Γ, ρ, s1, z, s', F.nx n1, e, fun v H' n' r => k v H' (n1.trans n') (r.mono (F.nx n1) n1.xs)⟩
  | false =>
    rw [if_neg Bool.false_ne_true] at e ⊢
    exact ⟨Γ, ρ, s1, z, s', F.nx n1, e, fun v H' n' r => k v H' (n1.trans n') (r.mono (F.nx n1) n1.xs)⟩
end

/-! ### places, slices -/
def getD (x i : D) : Option D := match x, i with
  | .list xs, .int i => atI xs i
  | .tuple xs, .int i => atI xs i
  | .str z, .int i => if z.length ≤ LIM then (atI z.cps.toList i).map fun c => .str ⟨#[c]⟩ else none
  | _, _ => none
def cutD (xs : List D) (lo hi : Option Int) : List D := (xs.drop (HT.sIx xs.length 0 lo)).take (HT.sIx xs.length xs.length hi - HT.sIx xs.length 0 lo)
theorem atI_rl {K : PySem.W.Frag} {A : Addr → Prop} {H : Hp} {vs : List V} {ds : List D} {i : Int} {x : D} (r : RlA K A H vs ds) (h : atI ds i = some x) : ∃ v, atI vs i = some v ∧ Rl K A H v x := by
  unfold atI at h ⊢
  rw [r.length]
  cases q : ixN ds.length i with
  | none => rw [q] at h; cases h
  | some j =>
    rw [q] at h
    exact r.get' h
def rIxA (K : PySem.W.Frag) : R2 := fun x y H Q => rIxL K x y H Q ∨ (rIxT K x y H Q ∨ rIxS x y H Q)
theorem cv_ix {K : PySem.W.Frag} : Cv2 K (rIxA K) getD := by
  intro Γ ρ σ H s v w x y z Q F rx ry e k
  unfold getD at e
  split at e
  · obtain ⟨p, vs, rfl, h, r⟩ := rx.list F
    cases ry.int F
    obtain ⟨u, hu, ru⟩ := atI_rl r e
    exact .inl ⟨p, vs, _, u, rfl, rfl, SqL.of h, hu, k _ H F.nx0 ru⟩
  · obtain ⟨p, vs, rfl, h, r⟩ := rx.tup F
    cases ry.int F
    obtain ⟨u, hu, ru⟩ := atI_rl r e
    exact .inr (.inl ⟨p, vs, _, u, rfl, rfl, h.sq, hu, k _ H F.nx0 ru⟩)
  · cases rx.str F
    cases ry.int F
    split at e
    · rename_i hl
      obtain ⟨c, hc, rfl⟩ := Option.map_eq_some_iff.mp e
      exact .inr (.inr ⟨_, _, c, rfl, rfl, lim_ok hl, hc, k _ H F.nx0 (.str _)⟩)
    · cases e
  · cases e
section
variable {X : Cx} {a b : Expr} {fa fb : Ev → M D} {pos : Pos}
theorem se_ix (ha : ST X a fa) (hb : ST X b fb) (hs : PlainIx b := by exact fun _ _ => rfl) : SE X (.Subscript a b pos) (eBin getD fa fb) := pe_imp (pe_ix (IxR.or ix_list (IxR.or ix_tup ix_str)) ha hb hs) fun _ _ _ h => bin_imp cv_ix h
end
/-- a slice's end -/
def oNone : Ev → M (Option Int) := fun _ => ret none
def oSome (f : Ev → M D) : Ev → M (Option Int) := fun ρ => bnd (f ρ) fun x => match x with
  | .int i => ret (some i)
  | _ => err
def tOI (K : PySem.W.Frag) (f : Ev → M (Option Int)) : TO := fun σ H Q => ∃ (Γ : Gh) (ρ : Ev) (s : Ss) (x : Option Int) (s' : Ss), FR K Γ ρ σ H s ∧ f ρ s = some (x, s') ∧ ∀ H', Nx Γ H H' s' → Q x H'
abbrev SO (X : Cx) (e : Option Expr) (f : Ev → M (Option Int)) : Prop := PO X e (tOI X.K f)
section
variable {X : Cx} {e : Expr} {f : Ev → M D}
theorem so_none : SO X none oNone := ⟨fun pins s σ H Q I ⟨Γ, ρ, s0, x, s', F, e, k⟩ => by
  obtain ⟨rfl, rfl⟩ := ret_some e
  exact (po_none (X := X)).run pins s σ H Q I (k H F.nx0)⟩
theorem so_some (h : ST X e f) : SO X (some e) (oSome f) := ⟨fun pins s σ H Q I ⟨Γ, ρ, s0, x, s', F, e, k⟩ => by
  refine (po_some h).run pins s σ H Q I ?_
  obtain ⟨y, s1, e1, e⟩ := bnd_some e
  split at e
  · obtain ⟨rfl, rfl⟩ := ret_some e
    refine ⟨Γ, ρ, s0, _, s1, F, e1, fun v H1 n1 r1 => ?_⟩
    cases r1.int (F.nx n1)
    exact ⟨_, rfl, k H1 n1⟩
  · cases e⟩
end
def eSlL (fa : Ev → M D) (fl fh : Ev → M (Option Int)) : Ev → M D := fun ρ => bnd (fa ρ) fun x => bnd (fl ρ) fun l => bnd (fh ρ) fun h => match x with
  | .list xs => ret (.list (cutD xs l h))
  | _ => err
def eSl (fa : Ev → M D) (fl fh : Ev → M (Option Int)) : Ev → M D := fun ρ => bnd (fa ρ) fun x => bnd (fl ρ) fun l => bnd (fh ρ) fun h => match x with
  | .list xs => ret (.list (cutD xs l h))
  | .tuple xs => ret (.tuple (cutD xs l h))
  | _ => err
theorem RlA.cut {K : PySem.W.Frag} {A : Addr → Prop} {H : Hp} {vs : List V} {ds : List D} (r : RlA K A H vs ds) (l h : Option Int) : RlA K A H (cutV vs l h) (cutD ds l h) := by
  unfold cutV cutD
  rw [r.length]
  exact (r.drop _).take _
theorem cut_all {ds : List D} {l h : Option Int} (w : HT.sIx ds.length 0 l = 0 ∧ HT.sIx ds.length ds.length h = ds.length) : cutD ds l h = ds := by
  unfold cutD
  rw [w.1, w.2]
  simp
section
variable {X : Cx} {a : Expr} {lo hi : Option Expr} {fa : Ev → M D} {fl fh : Ev → M (Option Int)} {pos p2 : Pos}
theorem se_sl (ha : ST X a fa) (hl : SO X lo fl) (hh : SO X hi fh) : SE X (.Subscript a (.Slice lo hi none p2) pos) (eSl fa fl fh) := pe_imp (pe_slice (SlR.or sl_list sl_tupA) ha hl hh) fun σ H Q ⟨Γ, ρ, s, z, s', F, e, k⟩ => by
  obtain ⟨x, s1, e1, e⟩ := bnd_some e
  obtain ⟨l, s2, e2, e⟩ := bnd_some e
  obtain ⟨h, s3, e3, e⟩ := bnd_some e
  refine ⟨Γ, ρ, s, x, s1, F, e1, fun v H1 n1 r1 => ⟨Γ, ρ, s1, l, s2, F.nx n1, e2, fun H2 n2 => ⟨Γ, ρ, s2, h, s3, (F.nx n1).nx n2, e3, fun H3 n3 => ?_⟩⟩⟩
  have F3 := ((F.nx n1).nx n2).nx n3
  have n := (n1.trans n2).trans n3
  have r := (r1.xs (F.nx n1) n2.xs).xs ((F.nx n1).nx n2) n3.xs
  split at e
  · obtain ⟨rfl, rfl⟩ := ret_some e
    obtain ⟨p, vs, rfl, hp, q⟩ := r.list F3
    exact .inl ⟨p, vs, rfl, SqL.of hp, aft_lst F3 (q.cut l h) fun u H' n' r' => k u H' (n.trans n') (r'.rl F3)⟩
  · obtain ⟨rfl, rfl⟩ := ret_some e
    obtain ⟨p, vs, rfl, hp, q⟩ := r.tup F3
    refine .inr ⟨p, vs, rfl, hp.sq, fun w => ?_, fun _ => aft_tup F3 (q.cut l h) fun u H' n' r' => k u H' (n.trans n') r'⟩
    rw [q.length] at w
    rw [cut_all w] at k
    exact k _ H3 n (.tup hp q)
  · cases e
theorem sf_sl (ha : ST X a fa) (hl : SO X lo fl) (hh : SO X hi fh) : SF X (.Subscript a (.Slice lo hi none p2) pos) (eSlL fa fl fh) := pe_imp (pe_slice sl_list ha hl hh) fun σ H Q ⟨Γ, ρ, s, z, s', F, e, k⟩ => by
  obtain ⟨x, s1, e1, e⟩ := bnd_some e
  obtain ⟨l, s2, e2, e⟩ := bnd_some e
  obtain ⟨h, s3, e3, e⟩ := bnd_some e
  refine ⟨Γ, ρ, s, x, s1, F, e1, fun v H1 n1 r1 => ⟨Γ, ρ, s1, l, s2, F.nx n1, e2, fun H2 n2 => ⟨Γ, ρ, s2, h, s3, (F.nx n1).nx n2, e3, fun H3 n3 => ?_⟩⟩⟩
  have F3 := ((F.nx n1).nx n2).nx n3
  have n := (n1.trans n2).trans n3
  have r := (r1.xs (F.nx n1) n2.xs).xs ((F.nx n1).nx n2) n3.xs
  split at e
  · obtain ⟨rfl, rfl⟩ := ret_some e
    obtain ⟨p, vs, rfl, hp, q⟩ := r.list F3
    exact ⟨p, vs, rfl, SqL.of hp, aft_lst F3 (q.cut l h) fun u H' n' r' => k u H' (n.trans n') (r'.mono F3 n.xs)⟩
  · cases e
end
end Sm

set_option Elab.async false
set_option linter.all false
set_option maxRecDepth 100000
set_option maxHeartbeats 4000000
namespace Sm
open PySem PySem.Spec L2

/-! ### argument lists: data, new lists, the source -/
abbrev Gh.adds (Γ : Gh) (ps : List Addr) : Gh := { Γ with A := fun b => Γ.A b ∨ b ∈ ps }
theorem Gh.adds_nil (Γ : Gh) : Γ.adds [] = Γ := by
  have e : (fun b => Γ.A b ∨ b ∈ ([] : List Addr)) = Γ.A := by funext b; simp
  show ({ Γ with A := fun b => Γ.A b ∨ b ∈ ([] : List Addr) } : Gh) = Γ
  rw [e]
theorem Gh.add_adds (Γ : Gh) (p : Addr) (ps : List Addr) : (Γ.add p).adds ps = Γ.adds (p :: ps) := by
  have e : (fun b => (Γ.A b ∨ b = p) ∨ b ∈ ps) = fun b => Γ.A b ∨ b ∈ p :: ps := by funext b; simp [or_assoc]
  show ({ Γ with A := fun b => (Γ.A b ∨ b = p) ∨ b ∈ ps } : Gh) = { Γ with A := fun b => Γ.A b ∨ b ∈ p :: ps }
  rw [e]
section
variable (K : PySem.W.Frag) (sd : Addr) (A : Addr → Prop) (H : Hp)
inductive LA : List Addr → List V → List Vl → Prop
  | nil : LA [] [] []
  | d {v : V} {x : D} {ps : List Addr} {vs : List V} {as : List Vl} : Rl K A H v x → LA ps vs as → LA ps (v :: vs) (.d x :: as)
  | own {p : Addr} {ws : List V} {ds : List D} {ps : List Addr} {vs : List V} {as : List Vl} : H p = some (.lst ws) → RlA K A H ws ds → LA ps vs as → LA (p :: ps) (.ref p :: vs) (.own (.list ds) :: as)
  | src {ps : List Addr} {vs : List V} {as : List Vl} : LA ps vs as → LA ps (.ref sd :: vs) (.src :: as)
end
def LR (K : PySem.W.Frag) (Γ : Gh) (ρ : Ev) (σ : L2.St) (H H' : Hp) (s' : Ss) (vs : List V) (as : List Vl) : Prop :=
  ∃ ps : List Addr, ps.Nodup ∧ (∀ p ∈ ps, H p = none) ∧ FR K (Γ.adds ps) ρ σ H' s' ∧ LA K Γ.sd (MM (Γ.adds ps) ρ σ) H' ps vs as
def tL (K : PySem.W.Frag) (f : Ev → M (List Vl)) : TA := fun σ H Q => ∃ (Γ : Gh) (ρ : Ev) (s : Ss) (as : List Vl) (s' : Ss), FR K Γ ρ σ H s ∧ f ρ s = some (as, s') ∧ ∀ vs H', Nx Γ H H' s' → LR K Γ ρ σ H H' s' vs as → Q vs H'
abbrev SA (X : Cx) (es : List Expr) (f : Ev → M (List Vl)) : Prop := PA X es (tL X.K f)
def aNil : Ev → M (List Vl) := fun _ => ret []
def aD (fe : Ev → M D) (fr : Ev → M (List Vl)) : Ev → M (List Vl) := fun ρ => bnd (fe ρ) fun x => bnd (fr ρ) fun as => ret (.d x :: as)
def aOwn (fe : Ev → M D) (fr : Ev → M (List Vl)) : Ev → M (List Vl) := fun ρ => bnd (fe ρ) fun x => bnd (fr ρ) fun as => ret (.own x :: as)
def gSrc (ρ : Ev) (i : Nat) : Option Unit := match ρ[i]? with
  | some (some .src) => some ()
  | _ => none
def aSrc (i : Nat) (fr : Ev → M (List Vl)) : Ev → M (List Vl) := fun ρ => bnd (ofO (gSrc ρ i)) fun _ => bnd (fr ρ) fun as => ret (.src :: as)
def itemsD : D → Option (List D)
  | .list xs => some xs
  | .tuple xs => some xs
  | _ => none
def aStar (fe : Ev → M D) (fr : Ev → M (List Vl)) : Ev → M (List Vl) := fun ρ => bnd (fe ρ) fun x => bnd (ofO (itemsD x)) fun xs => bnd (fr ρ) fun as => ret (xs.map Vl.d ++ as)
section
variable {K : PySem.W.Frag} {Γ : Gh} {ρ : Ev} {σ : L2.St} {H H' : Hp} {s s' : Ss} {A : Addr → Prop} {sd : Addr}
theorem RlA.pins : ∀ {vs : List V} {ds : List D}, RlA K A H vs ds → ∀ p ∈ vs.zip ds, Rl K A H p.1 p.2
  | _, [], h, p, hp => by cases h; simp at hp
  | _, x :: ds, h, p, hp => by
    cases h with
    | cons h1 h2 =>
      rw [List.zip_cons_cons] at hp
      rcases List.mem_cons.mp hp with rfl | hp
      · exact h1
      · exact RlA.pins h2 p hp
theorem RlA.ofPins : ∀ {vs : List V} {ds : List D}, vs.length = ds.length → (∀ p ∈ vs.zip ds, Rl K A H p.1 p.2) → RlA K A H vs ds
  | [], [], _, _ => .nil
  | v :: vs, [], h, _ => by simp at h
  | [], x :: ds, h, _ => by simp at h
  | v :: vs, x :: ds, h, k => .cons (k (v, x) (by simp)) (RlA.ofPins (by simpa using h) fun p hp => k p (by rw [List.zip_cons_cons]; exact List.mem_cons_of_mem _ hp))
theorem LA.dats : ∀ {ws : List V} {ds : List D} {ps : List Addr} {vs : List V} {as : List Vl}, RlA K A H ws ds → LA K sd A H ps vs as → LA K sd A H ps (ws ++ vs) (ds.map Vl.d ++ as)
  | _, [], _, _, _, h, g => by cases h; exact g
  | _, x :: ds, _, _, _, h, g => by
    cases h with
    | cons h1 h2 => exact .d h1 (LA.dats h2 g)
end
section
variable {X : Cx} {e : Expr} {es : List Expr} {fe : Ev → M D} {fr : Ev → M (List Vl)}
theorem sa_nil : SA X [] aNil := ⟨fun pos pins s σ H Q I ⟨Γ, ρ, s0, x, s', F, e, k⟩ => by
  obtain ⟨rfl, rfl⟩ := ret_some e
  exact (pa_nil (X := X)).run pos pins s σ H Q I (k [] H F.nx0 ⟨[], .nil, fun p h => absurd h List.not_mem_nil, (by rw [Gh.adds_nil]; exact F), .nil⟩)⟩
theorem pa_imp {t t' : TA} (h : PA X es t) (w : ∀ σ H Q, t' σ H Q → t σ H Q) : PA X es t' := ⟨fun pos pins s σ H Q I q => h.run pos pins s σ H Q I (w σ H Q q)⟩
theorem sa_d (he : SE X e fe) (hr : SA X es fr) (hs : starEach (e :: es) X.env = (false, eval e X.env) :: starEach es X.env := by rfl) : SA X (e :: es) (aD fe fr) := pa_imp (pa_cons he hr hs) fun σ H Q ⟨Γ, ρ, s, z, s', F, e, k⟩ => by
  obtain ⟨x, s1, e1, e⟩ := bnd_some e
  obtain ⟨as, s2, e2, e⟩ := bnd_some e
  obtain ⟨rfl, rfl⟩ := ret_some e
  refine ⟨Γ, ρ, s, x, s1, F, e1, fun v H1 n1 r1 => ?_⟩
  refine ⟨Γ.pinned [(v, x)], ρ, s1, as, s2, (F.nx n1).pinup (by simpa using r1), e2, fun vs H2 n2 ⟨ps, nd, hn, F2, la⟩ => ?_⟩
  have F2' : FR X.K ((Γ.adds ps).pinned [(v, x)]) ρ σ H2 s2 := F2
  refine k _ H2 (n1.trans ⟨n2.xs, n2.src⟩) ⟨ps, nd, fun p hp => Xs.none (F.nx n1) n1.xs (hn p hp), F2'.unpin, .d ?_ la⟩
  exact F2.pin (v, x) (by simp)
theorem sa_own (he : SF X e fe) (hr : SA X es fr) (hs : starEach (e :: es) X.env = (false, eval e X.env) :: starEach es X.env := by rfl) : SA X (e :: es) (aOwn fe fr) := pa_imp (pa_cons he hr hs) fun σ H Q ⟨Γ, ρ, s, z, s', F, e, k⟩ => by
  obtain ⟨x, s1, e1, e⟩ := bnd_some e
  obtain ⟨as, s2, e2, e⟩ := bnd_some e
  obtain ⟨rfl, rfl⟩ := ret_some e
  refine ⟨Γ, ρ, s, x, s1, F, e1, fun v H1 n1 r1 => ?_⟩
  obtain ⟨p, ws, ds, rfl, rfl, hn, hp, r⟩ := r1
  have F1 : FR X.K (Γ.add p) ρ σ H1 s1 := F.new n1 hn hp
  refine ⟨(Γ.add p).pinned (ws.zip ds), ρ, s1, as, s2, F1.pinup r.pins, e2, fun vs H2 n2 ⟨ps, nd, hm, F2, la⟩ => ?_⟩
  have F2' : FR X.K (((Γ.add p).adds ps).pinned (ws.zip ds)) ρ σ H2 s2 := F2
  have F3 := F2'.unpin
  have la' : LA X.K Γ.sd (MM ((Γ.add p).adds ps) ρ σ) H2 ps vs as := la
  have rr : RlA X.K (MM ((Γ.add p).adds ps) ρ σ) H2 ws ds := RlA.ofPins r.length fun q hq => F2'.pin q (List.mem_append_left _ hq)
  rw [Gh.add_adds] at F3 la' rr
  have n1s : p ≠ Γ.sd := fun z => by rw [z, F.src.1] at hn; cases hn
  have n1c : p ≠ Γ.sc := fun z => by rw [z, F.src.2.1] at hn; cases hn
  refine k _ H2 (n1.trans ⟨n2.xs, n2.src⟩) ⟨p :: ps, List.nodup_cons.mpr ⟨fun hq => ?_, nd⟩, fun q hq => ?_, F3, .own (n2.xs p _ hp n1s n1c) rr la'⟩
  · have := hm p hq
    rw [hp] at this; cases this
  · rcases List.mem_cons.mp hq with rfl | hq
    · exact hn
    · exact Xs.none (F.nx n1) n1.xs (hm q hq)
theorem sa_src (i : Nat) {x : Str} {pos : Pos} (hr : SA X es fr) (hN : X.N[i]? = some x := by rfl) (hv : Vis X.env.scope x := by first | exact Or.inl rfl | exact Or.inr (Or.inl rfl) | exact Or.inr (Or.inr rfl)) (hd : (x == ("__debug__" : Str)) = false := by decide)
    (hcd : (x == ("__classdict__" : Str)) = false := by decide) (hs : starEach (.Name x pos :: es) X.env = (false, eval (.Name x pos) X.env) :: starEach es X.env := by rfl) : SA X (.Name x pos :: es) (aSrc i fr) := pa_imp (pa_cons (pe_var hN hv hd hcd) hr hs) fun σ H Q ⟨Γ, ρ, s, z, s', F, e, k⟩ => by
  obtain ⟨u, s1, e1, e⟩ := bnd_some e
  obtain ⟨e1', rfl⟩ := ofO_some e1
  obtain ⟨as, s2, e2, e⟩ := bnd_some e
  obtain ⟨rfl, rfl⟩ := ret_some e
  unfold gSrc at e1'
  split at e1'
  · rename_i q
    refine ⟨.ref Γ.sd, F.srcv i q, Γ, ρ, s, as, s2, F, e2, fun vs H2 n2 ⟨ps, nd, hm, F2, la⟩ => ?_⟩
    exact k _ H2 n2 ⟨ps, nd, hm, F2, .src la⟩
  · cases e1'
theorem sa_star {p : Pos} (he : ST X e fe) (hr : SA X es fr) (hs : starEach (.Starred e p :: es) X.env = (true, eval e X.env) :: starEach es X.env := by rfl) : SA X (.Starred e p :: es) (aStar fe fr) := pa_imp (StX.pa_star he hr hs) fun σ H Q ⟨Γ, ρ, s, z, s', F, e, k⟩ => by
  obtain ⟨x, s1, e1, e⟩ := bnd_some e
  obtain ⟨xs, s1', e1', e⟩ := bnd_some e
  obtain ⟨e3, rfl⟩ := ofO_some e1'
  obtain ⟨as, s2, e2, e⟩ := bnd_some e
  obtain ⟨rfl, rfl⟩ := ret_some e
  refine ⟨Γ, ρ, s, x, s1, F, e1, fun v H1 n1 r1 => ?_⟩
  have F1 := F.nx n1
  have sq : ∃ a ws, v = V.ref a ∧ (SqT X.K H1 a ws ∨ SqL X.K H1 a ws) ∧ RlA X.K (MM Γ ρ σ) H1 ws xs := by
    unfold itemsD at e3
    split at e3
    · cases e3
      obtain ⟨a, ws, e, h, r⟩ := r1.list F1
      exact ⟨a, ws, e, .inr (SqL.of h), r⟩
    · cases e3
      obtain ⟨a, ws, e, h, r⟩ := r1.tup F1
      exact ⟨a, ws, e, .inl h.sq, r⟩
    · cases e3
  obtain ⟨a, ws, rfl, hsq, r⟩ := sq
  refine ⟨a, ws, rfl, hsq, ?_⟩
  refine ⟨Γ.pinned (ws.zip xs), ρ, s1, as, s2, F1.pinup r.pins, e2, fun vs H2 n2 ⟨ps, nd, hn, F2, la⟩ => ?_⟩
  have F2' : FR X.K ((Γ.adds ps).pinned (ws.zip xs)) ρ σ H2 s2 := F2
  refine k _ H2 (n1.trans ⟨n2.xs, n2.src⟩) ⟨ps, nd, fun p hp => Xs.none F1 n1.xs (hn p hp), F2'.unpin, LA.dats (RlA.ofPins r.length fun q hq => F2'.pin q (List.mem_append_left _ hq)) la⟩
end

/-! ### displays -/
def datsV : List Vl → Option (List D)
  | [] => some []
  | .d x :: as => (datsV as).map (x :: ·)
  | _ :: _ => none
theorem LA.rl {K : PySem.W.Frag} {sd : Addr} {A : Addr → Prop} {H : Hp} : ∀ {as : List Vl} {ps : List Addr} {vs : List V} {ds : List D}, LA K sd A H ps vs as → datsV as = some ds → ps = [] ∧ RlA K A H vs ds
  | [], _, _, _, h, e => by cases h; cases e; exact ⟨rfl, .nil⟩
  | .d x :: as, _, _, _, h, e => by
    cases h with
    | d h1 h2 =>
      obtain ⟨ds', e', rfl⟩ := Option.map_eq_some_iff.mp (show (datsV as).map (x :: ·) = _ from e)
      obtain ⟨rfl, r⟩ := LA.rl h2 e'
      exact ⟨rfl, .cons h1 r⟩
  | .own _ :: _, _, _, _, _, e => by cases e
  | .src :: _, _, _, _, _, e => by cases e
def dispD (as : List Vl) : Option (List D) := (datsV as).bind fun ds => if ds.length ≤ LIM then some ds else none
def eTup (f : Ev → M (List Vl)) : Ev → M D := fun ρ => bnd (f ρ) fun as => ofO ((dispD as).map PyData.tuple)
def eLst (f : Ev → M (List Vl)) : Ev → M D := fun ρ => bnd (f ρ) fun as => ofO ((dispD as).map PyData.list)
section
variable {X : Cx} {es : List Expr} {f : Ev → M (List Vl)} {pos : Pos}
theorem disp_imp {K : PySem.W.Frag} {Γ : Gh} {ρ : Ev} {σ : L2.St} {H H' : Hp} {s' : Ss} {vs : List V} {as : List Vl} {ds : List D} (h : LR K Γ ρ σ H H' s' vs as) (e : dispD as = some ds) : FR K Γ ρ σ H' s' ∧ RlA K (MM Γ ρ σ) H' vs ds ∧ vs.length ≤ LIM := by
  obtain ⟨ps, nd, hn, F, la⟩ := h
  obtain ⟨ds', e1, e2⟩ := Option.bind_eq_some_iff.mp e
  split at e2
  · rename_i hl
    cases e2
    obtain ⟨rfl, r⟩ := la.rl e1
    rw [Gh.adds_nil] at F r
    exact ⟨F, r, by rw [r.length]; exact hl⟩
  · cases e2
theorem se_tup {k : Nat} (h : SA X es f) : SE X (.Tuple es k pos) (eTup f) := pe_imp (pe_tup h) fun σ H Q ⟨Γ, ρ, s, z, s', F, e, k⟩ => by
  obtain ⟨as, s1, e1, e⟩ := bnd_some e
  obtain ⟨e3, rfl⟩ := ofO_some e
  obtain ⟨ds, e4, rfl⟩ := Option.map_eq_some_iff.mp e3
  refine ⟨Γ, ρ, s, as, s1, F, e1, fun vs H1 n1 r1 => ?_⟩
  obtain ⟨F1, r, hl⟩ := disp_imp r1 e4
  exact ⟨lim_ok hl, aft_tup F1 r fun u H' n q => k u H' (n1.trans n) q⟩
theorem sf_lst (h : SA X es f) : SF X (.List es pos) (eLst f) := pe_imp (pe_lst h) fun σ H Q ⟨Γ, ρ, s, z, s', F, e, k⟩ => by
  obtain ⟨as, s1, e1, e⟩ := bnd_some e
  obtain ⟨e3, rfl⟩ := ofO_some e
  obtain ⟨ds, e4, rfl⟩ := Option.map_eq_some_iff.mp e3
  refine ⟨Γ, ρ, s, as, s1, F, e1, fun vs H1 n1 r1 => ?_⟩
  obtain ⟨F1, r, hl⟩ := disp_imp r1 e4
  exact ⟨lim_ok hl, aft_lst F1 r fun u H' n q => k u H' (n1.trans n) (q.mono (F.nx n1) n1.xs)⟩
end

/-! ### defs, called where no repr is under way -/
structure FnG (P : Program) (w : World) (K : PySem.W.Frag) (mg : Str → Option Value) (base : Heap) (k : Nat) (f : Addr) (fd : FuncData) (ps : List Str) (sp : Sp) : Prop where
  len : ∀ vs H Q E, sp vs H Q E → vs.length = ps.length
  run : ∀ (A : Around) (outer : List Env) (s : Shared) (H : Hp) (args : Args) (us : List Value) (vs : List V) (Q : VK) (E : XK), A.guards = some [] → Room k A → Env0 P w K mg base A outer s H →
    BindsTo s fd args (ps.zip us) → Vals vs us → sp vs H Q E → codeAny (model P w) A (.call (.ref f) args) (CR CX0 outer P w H s Q E) s
section
variable {P : Program} {w : World} {K : PySem.W.Frag} {mg : Str → Option Value} {base : Heap} {j k : Nat} {f : Addr} {fd : FuncData} {ps : List Str} {sp sp' : Sp}
theorem FnG.mono (F : FnG P w K mg base j f fd ps sp) (h : j ≤ k) : FnG P w K mg base k f fd ps sp :=
  ⟨F.len, fun A outer s H args us vs Q E hd hr => F.run A outer s H args us vs Q E hd (hr.mono h)⟩
/-- a def of the text keeps its promise, by its body -/
theorem fn_ofG {x qual : Str} {params : Arguments} {body : List Stmt} {scope : Scope} {kws : List (Str × V)} {N : List Str} (F : FunD K x qual params body scope [] kws f fd) (S : FnScope N ps scope) (len : ∀ vs H Q E, sp vs H Q E → vs.length = ps.length)
    (hbody : ∀ (cdv : Value) (A : Around) (outer : List Env) (s : Shared) (H : Hp) (vs : List V) (Q : VK) (E : XK), A.guards = some [] → Room k (A.deeper (PyProof.Rows.envOfC qual scope s.heap.objs.size f cdv)) → sp vs H Q E →
      ∃ t, PSs (cxOf CX0 P w K mg base N qual scope f cdv A outer s H E).nox body t ∧ t { nx := fun _ H' => Q .non H', rt := Q } (start N vs) H) : FnG P w K mg base (k + 1) f fd ps sp := by
  obtain ⟨oc, od, dV, kV, doc, pm, an, cdv, ct, osl, rfl, lk, hcd, _, _⟩ := F.ex
  refine ⟨len, fun A outer s H args us vs Q E hgd hr e0 hb r hsp => ?_⟩
  have hl := len _ _ _ _ hsp
  have bk : ∀ b o, base.get? b = some o → s.heap.get? b = some o := fun b o e => (e0.bs b o e).1
  have KX : K.In s.heap := e0.mod.kin.keeps bk
  refine codeAny_call_function hr.depth (KX _ _ lk) rfl S.co S.gen rfl (PySem.W.codeRec_of KX hcd) (hb _ _ _ _ (wpAny_newFunctionEnv_cells S.kind (fun ⟨n, v⟩ hy => (S.par n (List.of_mem_zip hy).1).imp_right fun q => ⟨q, PySem.W.cellsFrom_some _ _ _ (.inl q)⟩) fun env he s1 z => ?_))
  subst he
  obtain ⟨t, ht, hq⟩ := hbody cdv A outer s H vs Q E hgd (hr.deeper _) hsp
  refine ⟨(e0.mod.nolimit.keeps bk).keeps z.toInCall.keep, codeAny_func (wpAny_mono (ht.nox.run [] s1 (start N vs) H _ (inv_start S hr.hd e0 hl r z) hq) (fun fl s' hs => ?_) fun e s' hs => hs)⟩
  cases fl with
  | next =>
    obtain ⟨_, H', J, q⟩ := hs
    exact ⟨.non, H', J.os, J.bare, J.base, J.hok, rfl, q⟩
  | ret u =>
    obtain ⟨v, _, H', J, rv, q⟩ := hs
    exact ⟨v, H', J.os, J.bare, J.base, J.hok, rv, q⟩
  | brk => exact (let ⟨_, _, _, q⟩ := hs; q : False).elim
  | cont => exact (let ⟨_, _, _, q⟩ := hs; q : False).elim
end
section
variable {X : Cx} {k : Nat} {f : Addr} {fd : FuncData} {ps : List Str} {sp : Sp} {x : Str} {p pos : Pos} {e : Expr} {es : List Expr} {t : TA}
theorem pe_callG (F : FnG X.prog X.w X.K X.mg X.base k f fd ps sp) (hgd : X.A.guards = some []) (hr : Room k X.A) (hg : Gl X x) (hm : X.mg x = some (.ref f)) (hk : PySem.W.keepIn X.K (.ref f) = true) (hb : Binds X.K fd ps [])
    (ha : PA X (e :: es) t) (hdb : (x == ("__debug__" : Str)) = false) (he : starEach (e :: es) X.env = (false, eval e X.env) :: starEach es X.env) (hpl : (backTo pos (starEach es X.env)).any (·.1) = false) :
    PE X (.Call (.Name x p) (e :: es) [] pos) (fun σ H Q => t σ H fun vs H1 => sp vs H1 Q E0) := by
  refine ⟨fun pins s σ H Q I h => wpAny_Call_Name_kw (ld_glob I hg hm (PySem.W.callWith_K (h₀ := X.base) I.ok.mod.kin hk (thn (ha.run pos pins s σ H _ I h) fun us s1 ⟨vs, H1, I1, r, q⟩ => ⟨I1.kIn, ?_⟩) he hpl) hdb)⟩
  have hl : us.length = ps.length := r.length.symm.trans (F.len _ _ _ _ q)
  have bd : BindsTo s1 fd ⟨us, []⟩ (ps.zip us) := by
    have := hb s1 us I1.kIn (by rw [List.append_nil]; exact hl)
    rwa [List.append_nil] at this
  refine wpAny_call (codeAny_mono (F.run X.A X.stack s1 H1 ⟨us, []⟩ us vs Q E0 hgd hr I1.env0 bd r q) fun r s' hq => ?_)
  match r, hq with
  | .error e, hq => exact hq.elim
  | .ok (.ret u), hq => exact I1.after hq
  | .ok .next, hq => exact hq.elim
  | .ok .brk, hq => exact hq.elim
  | .ok .cont, hq => exact hq.elim
end

/-! ### calls of the text's defs -/
/-- the promise: with these arguments the def hands back G's value, all else kept but the source -/
def spD (K : PySem.W.Frag) (n : Nat) (G : List Vl → M D) : Sp := fun vs H Q _ => ∃ (sd sc : Addr) (A : Addr → Prop) (as : List Vl) (s s' : Ss) (x : D),
  vs.length = n ∧ (∀ b, A b → ∃ o, H b = some o) ∧ A sd ∧ A sc ∧ SrcAt sd sc H s ∧ LA K sd A H [] vs as ∧ G as s = some (x, s') ∧
  ∀ v H', (∀ b o, H b = some o → b ≠ sd → b ≠ sc → H' b = some o) → SrcAt sd sc H' s' → Rl K A H' v x → Q v H'
def noOwn : List Vl → Bool
  | [] => true
  | .own _ :: _ => false
  | _ :: as => noOwn as
theorem LA.noOwn {K : PySem.W.Frag} {sd : Addr} {A : Addr → Prop} {H : Hp} : ∀ {as : List Vl} {ps : List Addr} {vs : List V}, LA K sd A H ps vs as → noOwn as = true → ps = []
  | [], _, _, h, _ => by cases h; rfl
  | .d x :: as, _, _, h, e => by
    cases h with
    | d h1 h2 => exact LA.noOwn h2 e
  | .own _ :: _, _, _, _, e => by cases e
  | .src :: as, _, _, h, e => by
    cases h with
    | src h2 => exact LA.noOwn h2 e
theorem LA.length {K : PySem.W.Frag} {sd : Addr} {A : Addr → Prop} {H : Hp} {as : List Vl} {ps : List Addr} {vs : List V} (h : LA K sd A H ps vs as) : vs.length = as.length := by
  induction h with
  | nil => rfl
  | d _ _ ih => simp [ih]
  | own _ _ _ ih => simp [ih]
  | src _ ih => simp [ih]
/-- n arguments, no list that may be changed -/
def eCall (n : Nat) (G : List Vl → M D) (f : Ev → M (List Vl)) : Ev → M D := fun ρ => bnd (f ρ) fun as => if (noOwn as && decide (as.length = n)) = true then G as else err
section
variable {X : Cx} {x : Str} {p pos : Pos} {e : Expr} {es : List Expr} {f : Ev → M (List Vl)} {G : List Vl → M D} {n k : Nat} {fa : Addr} {fd : FuncData} {ps : List Str}
theorem se_call (FO : FnG X.prog X.w X.K X.mg X.base k fa fd ps (spD X.K n G)) (hgd : X.A.guards = some []) (hr : Room k X.A) (hg : Gl X x) (hm : X.mg x = some (.ref fa)) (hk : PySem.W.keepIn X.K (.ref fa) = true) (hb : Binds X.K fd ps [])
    (ha : SA X (e :: es) f) (hdb : (x == ("__debug__" : Str)) = false := by decide) (he : starEach (e :: es) X.env = (false, eval e X.env) :: starEach es X.env := by rfl) (hpl : (backTo pos (starEach es X.env)).any (·.1) = false := by rfl) : SE X (.Call (.Name x p) (e :: es) [] pos) (eCall n G f) := pe_imp (pe_callG FO hgd hr hg hm hk hb ha hdb he hpl) fun σ H Q ⟨Γ, ρ, s, z, s', F, e, k⟩ => by
  obtain ⟨as, s1, e1, e⟩ := bnd_some e
  refine ⟨Γ, ρ, s, as, s1, F, e1, fun vs H1 n1 ⟨ps, nd, hn, F1, la⟩ => ?_⟩
  split at e
  · rename_i ho
    rw [Bool.and_eq_true] at ho
    cases la.noOwn ho.1
    rw [Gh.adds_nil] at F1 la
    have hl := la.length
    refine ⟨Γ.sd, Γ.sc, MM Γ ρ σ, as, s1, s', z, ?_, fun b hb => F1.mdom hb, .inl F1.msd, .inl F1.msc, F1.src, la, e, fun v H' hx hs r => ?_⟩
    · rw [hl]; exact of_decide_eq_true ho.2
    · exact k v H' (n1.trans ⟨hx, hs⟩) r
  · cases e
end
end Sm

set_option Elab.async false
set_option linter.all false
set_option maxRecDepth 100000
set_option maxHeartbeats 4000000
namespace Sm
open PySem PySem.Spec L2

/-! ### statements -/
inductive Out where
  | nx (ρ : Ev) | rt (x : D)
def tS (K : PySem.W.Frag) (f : Ev → M Out) : TS := fun C σ H => ∃ (Γ : Gh) (ρ : Ev) (s : Ss) (o : Out) (s' : Ss), FR K Γ ρ σ H s ∧ f ρ s = some (o, s') ∧ match o with
  | .nx ρ' => ∀ σ' H', FR K Γ ρ' σ' H' s' → C.nx σ' H'
  | .rt x => ∀ v H', (∀ b u, Γ.H0 b = some u → b ≠ Γ.sd → b ≠ Γ.sc → H' b = some u) → SrcAt Γ.sd Γ.sc H' s' → Rl K Γ.A H' v x → C.rt v H'
abbrev SS (X : Cx) (st : Stmt) (f : Ev → M Out) : Prop := PS X st (tS X.K f)
abbrev SSs (X : Cx) (st : List Stmt) (f : Ev → M Out) : Prop := PSs X st (tS X.K f)
section
variable {X : Cx} {st : Stmt} {sts : List Stmt}
theorem ps_imp {t t' : TS} (h : PS X st t) (w : ∀ C σ H, t' C σ H → t C σ H) : PS X st t' := ⟨fun pins s σ H D I q => h.run pins s σ H D I (w D σ H q)⟩
theorem pss_imp {t t' : TS} (h : PSs X sts t) (w : ∀ C σ H, t' C σ H → t C σ H) : PSs X sts t' := ⟨fun pins s σ H D I q => h.run pins s σ H D I (w D σ H q)⟩
end
def sNil : Ev → M Out := fun ρ => ret (.nx ρ)
def sErr : Ev → M Out := fun _ => err
def sSeq (f g : Ev → M Out) : Ev → M Out := fun ρ => bnd (f ρ) fun o => match o with
  | .nx ρ' => g ρ'
  | .rt x => ret (.rt x)
def sRet (f : Ev → M D) : Ev → M Out := fun ρ => bnd (f ρ) fun x => ret (.rt x)
def sIf (g : Ev → M Bool) (f1 f2 : Ev → M Out) : Ev → M Out := fun ρ => bnd (g ρ) fun k => if k = true then f1 ρ else f2 ρ
def sDrop (f : Ev → M D) : Ev → M Out := fun ρ => bnd (f ρ) fun _ => ret (.nx ρ)
section
variable {X : Cx} {st : Stmt} {sts a b : List Stmt} {e c : Expr} {pos : Pos} {f g f1 f2 : Ev → M Out} {fe : Ev → M D} {gc : Ev → M Bool}
theorem ss_nil : SSs X [] sNil := pss_imp pss_nil fun C σ H ⟨Γ, ρ, s, o, s', F, e, k⟩ => by
  obtain ⟨rfl, rfl⟩ := ret_some e
  exact k σ H F
theorem ss_cons (h1 : SS X st f) (h2 : SSs X sts g) : SSs X (st :: sts) (sSeq f g) := pss_imp (pss_cons h1 h2) fun C σ H ⟨Γ, ρ, s, o, s', F, e, k⟩ => by
  obtain ⟨o1, s1, e1, e⟩ := bnd_some e
  refine ⟨Γ, ρ, s, o1, s1, F, e1, ?_⟩
  cases o1 with
  | nx ρ' => exact fun σ' H' F' => ⟨Γ, ρ', s1, o, s', F', e, k⟩
  | rt x =>
    obtain ⟨rfl, rfl⟩ := ret_some e
    exact k
theorem ss_one (h1 : SS X st f) : SSs X [st] f := pss_one h1
theorem ss_never : SS X st sErr := ps_imp ps_never fun C σ H ⟨Γ, ρ, s, o, s', F, e, k⟩ => by cases e
theorem FR.retd {K : PySem.W.Frag} {Γ : Gh} {ρ : Ev} {σ : L2.St} {H H' : Hp} {s : Ss} (F : FR K Γ ρ σ H s) (n : Xs Γ H H') : ∀ b u, Γ.H0 b = some u → b ≠ Γ.sd → b ≠ Γ.sc → H' b = some u :=
  fun b u h h1 h2 => n b u (F.keep b u h h1 h2) h1 h2
theorem Rl.toA {K : PySem.W.Frag} {Γ : Gh} {ρ : Ev} {σ : L2.St} {H : Hp} {v : V} {x : D} (h : Rl K (MM Γ ρ σ) H v x) : Rl K Γ.A H v x := Rl.ext (fun a o e q => ⟨e, fun z => q (.inl z)⟩) x v h
theorem ss_ret (he : SE X e fe) : SS X (.Return (some e) pos) (sRet fe) := ps_imp (ps_ret he) fun C σ H ⟨Γ, ρ, s, o, s', F, e, k⟩ => by
  obtain ⟨x, s1, e1, e⟩ := bnd_some e
  obtain ⟨rfl, rfl⟩ := ret_some e
  exact ⟨Γ, ρ, s, x, s1, F, e1, fun v H' n r => k v H' (F.retd n.xs) n.src r.toA⟩
theorem ss_if (hc : SB X c gc) (ha : SSs X a f1) (hb : SSs X b f2) : SS X (.If c a b pos) (sIf gc f1 f2) := ps_imp (ps_if hc ha hb) fun C σ H ⟨Γ, ρ, s, o, s', F, e, k⟩ => by
  obtain ⟨x, s1, e1, e⟩ := bnd_some e
  refine ⟨Γ, ρ, s, x, s1, F, e1, fun H1 n1 => ?_⟩
  cases x with
  | true =>
    rw [if_pos rfl] at e ⊢
    exact ⟨Γ, ρ, s1, o, s', F.nx n1, e, k⟩
  | false =>
    rw [if_neg Bool.false_ne_true] at e ⊢
    exact ⟨Γ, ρ, s1, o, s', F.nx n1, e, k⟩
theorem ss_drop (he : SE X e fe) (hs : swapsWith e none pos.line X.env = pure false := by rfl) : SS X (.Expr e pos) (sDrop fe) := ps_imp (ps_expr he hs) fun C σ H ⟨Γ, ρ, s, o, s', F, e, k⟩ => by
  obtain ⟨x, s1, e1, e⟩ := bnd_some e
  obtain ⟨rfl, rfl⟩ := ret_some e
  exact ⟨Γ, ρ, s, x, s1, F, e1, fun v H' n r => k σ H' (F.nx n)⟩
end

/-! ### stores -/
section
variable {K : PySem.W.Frag} {Γ : Gh} {ρ : Ev} {σ : L2.St} {H : Hp} {s : Ss} {i : Nat} {v : V} {x : D} {p : Addr}
theorem set_get {α : Type} {l : List α} {i j : Nat} {a b : α} (h : (l.set i a)[j]? = some b) : (i = j ∧ i < l.length ∧ a = b) ∨ (i ≠ j ∧ l[j]? = some b) := by
  by_cases e : i = j
  · subst e
    by_cases hl : i < l.length
    · rw [List.getElem?_set_self hl] at h
      exact .inl ⟨rfl, hl, Option.some.inj h⟩
    · rw [List.getElem?_eq_none (by simpa using hl)] at h
      cases h
  · rw [List.getElem?_set_ne e] at h
    exact .inr ⟨e, h⟩
theorem MM.setd (hl : σ.length = ρ.length) {w : Vl} (hw : ∀ y, w ≠ .own y) {b : Addr} (h : MM Γ (ρ.set i (some w)) (σ.set i (some v)) b) : MM Γ ρ σ b := by
  rcases h with h | ⟨j, y, h1, h2⟩
  · exact .inl h
  · rcases set_get h1 with ⟨_, _, e⟩ | ⟨ne, h1⟩
    · exact absurd (Option.some.inj e) (hw y)
    · rw [List.getElem?_set_ne ne] at h2
      exact .inr ⟨j, y, h1, h2⟩
theorem Rl.less {A A' : Addr → Prop} (h : Rl K A H v x) (k : ∀ b, A' b → A b) : Rl K A' H v x := Rl.ext (fun a o e q => ⟨e, fun z => q (k a z)⟩) x v h
theorem RlA.less {A A' : Addr → Prop} {vs : List V} {ds : List D} (h : RlA K A H vs ds) (k : ∀ b, A' b → A b) : RlA K A' H vs ds := RlA.ext (fun a o e q => ⟨e, fun z => q (k a z)⟩) ds vs h
/-- a value into a slot -/
theorem FR.setd (F : FR K Γ ρ σ H s) (r : Rl K (MM Γ ρ σ) H v x) : FR K Γ (ρ.set i (some (.d x))) (σ.set i (some v)) H s := by
  have up : ∀ b, MM Γ (ρ.set i (some (.d x))) (σ.set i (some v)) b → MM Γ ρ σ b := fun b h => MM.setd F.len (fun y z => by cases z) h
  refine ⟨F.keep, F.dom, F.msd, F.msc, F.src, by simp [F.len], fun j y h => ?_, fun j h => ?_, fun j y h => ?_, fun j l y z q h1 h2 h3 h4 => ?_, fun q hq => (F.pin q hq).less up⟩
  · rcases set_get h with ⟨rfl, hl, e⟩ | ⟨ne, h⟩
    · cases e
      exact ⟨v, by rw [List.getElem?_set_self (by rw [F.len]; exact hl)], r.less up⟩
    · obtain ⟨u, e, q⟩ := F.val j y h
      exact ⟨u, by rw [List.getElem?_set_ne ne]; exact e, q.less up⟩
  · rcases set_get h with ⟨rfl, hl, e⟩ | ⟨ne, h⟩
    · cases e
    · rw [List.getElem?_set_ne ne]; exact F.srcv j h
  · rcases set_get h with ⟨rfl, hl, e⟩ | ⟨ne, h⟩
    · cases e
    · obtain ⟨q, e, e0, nA, vs, ds, ex, e1, r⟩ := F.own j y h
      exact ⟨q, by rw [List.getElem?_set_ne ne]; exact e, e0, nA, vs, ds, ex, e1, r.less up⟩
  · rcases set_get h1 with ⟨rfl, _, e⟩ | ⟨n1, h1⟩
    · cases e
    · rcases set_get h2 with ⟨rfl, _, e⟩ | ⟨n2, h2⟩
      · cases e
      · rw [List.getElem?_set_ne n1] at h3
        rw [List.getElem?_set_ne n2] at h4
        exact F.inj j l y z q h1 h2 h3 h4
/-- a new list into a slot, from now on the frame's own -/
theorem FR.setown (F : FR K (Γ.add p) ρ σ H s) (a1 : Γ.A Γ.sd) (a2 : Γ.A Γ.sc) {ws : List V} {ds : List D} (hp : H p = some (.lst ws)) (r : RlA K (MM (Γ.add p) ρ σ) H ws ds) (h0 : Γ.H0 p = none) (nA : ¬ Γ.A p) :
    FR K Γ (ρ.set i (some (.own (.list ds)))) (σ.set i (some (.ref p))) H s := by
  have up : ∀ b, MM Γ (ρ.set i (some (.own (.list ds)))) (σ.set i (some (.ref p))) b → MM (Γ.add p) ρ σ b := fun b h => by
    rcases h with h | ⟨j, y, h1, h2⟩
    · exact .inl (.inl h)
    · rcases set_get h1 with ⟨rfl, hl, e⟩ | ⟨ne, h1⟩
      · rw [List.getElem?_set_self (by rw [F.len]; exact hl)] at h2
        cases h2
        exact .inl (.inr rfl)
      · rw [List.getElem?_set_ne ne] at h2
        exact .inr ⟨j, y, h1, h2⟩
  have np : ∀ (j : Nat) (y : D), ρ[j]? = some (some (.own y)) → σ[j]? = some (some (.ref p)) → False := fun j y h1 h2 => by
    obtain ⟨q, e, _, n, _⟩ := F.own j y h1
    rw [h2] at e
    cases e
    exact n (.inr rfl)
  refine ⟨F.keep, fun b h => F.dom b (.inl h), a1, a2, F.src, by simp [F.len], fun j y h => ?_, fun j h => ?_, fun j y h => ?_, fun j l y z q h1 h2 h3 h4 => ?_, fun q hq => (F.pin q hq).less up⟩
  · rcases set_get h with ⟨rfl, hl, e⟩ | ⟨ne, h⟩
    · cases e
    · obtain ⟨u, e, q⟩ := F.val j y h
      exact ⟨u, by rw [List.getElem?_set_ne ne]; exact e, q.less up⟩
  · rcases set_get h with ⟨rfl, hl, e⟩ | ⟨ne, h⟩
    · cases e
    · rw [List.getElem?_set_ne ne]; exact F.srcv j h
  · rcases set_get h with ⟨rfl, hl, e⟩ | ⟨ne, h⟩
    · cases e
      exact ⟨p, by rw [List.getElem?_set_self (by rw [F.len]; exact hl)], h0, nA, ws, ds, rfl, hp, r.less up⟩
    · obtain ⟨q, e, e0, nA', vs, ds, ex, e1, r⟩ := F.own j y h
      exact ⟨q, by rw [List.getElem?_set_ne ne]; exact e, e0, fun z => nA' (.inl z), vs, ds, ex, e1, r.less up⟩
  · rcases set_get h1 with ⟨rfl, l1, e⟩ | ⟨n1, h1⟩
    · rw [List.getElem?_set_self (by rw [F.len]; exact l1)] at h3
      cases h3
      rcases set_get h2 with ⟨rfl, _, e⟩ | ⟨n2, h2⟩
      · rfl
      · rw [List.getElem?_set_ne n2] at h4
        exact (np _ _ h2 h4).elim
    · rw [List.getElem?_set_ne n1] at h3
      rcases set_get h2 with ⟨rfl, l2, e⟩ | ⟨n2, h2⟩
      · rw [List.getElem?_set_self (by rw [F.len]; exact l2)] at h4
        cases h4
        exact (np _ _ h1 h3).elim
      · rw [List.getElem?_set_ne n2] at h4
        exact F.inj j l y z q h1 h2 h3 h4
/-- the frame's own list changed -/
theorem FR.upown (F : FR K Γ ρ σ H s) (h : ρ[i]? = some (some (.own x))) (e : σ[i]? = some (some (.ref p))) {ws : List V} {ds : List D} (r : RlA K (MM Γ ρ σ) H ws ds) :
    FR K Γ (ρ.set i (some (.own (.list ds)))) σ (upd H p (.lst ws)) s := by
  have hm : MM Γ ρ σ p := .inr ⟨i, x, h, e⟩
  obtain ⟨q0, e0, h0, nA, vs0, ds0, _, hp, _⟩ := F.own i x h
  rw [e] at e0
  cases e0
  have hi : i < ρ.length := (List.getElem?_eq_some_iff.mp h).1
  have same : ∀ b, MM Γ (ρ.set i (some (.own (.list ds)))) σ b ↔ MM Γ ρ σ b := fun b => by
    constructor
    · rintro (h' | ⟨j, y, h1, h2⟩)
      · exact .inl h'
      · rcases set_get h1 with ⟨rfl, _, _⟩ | ⟨ne, h1⟩
        · exact .inr ⟨i, x, h, h2⟩
        · exact .inr ⟨j, y, h1, h2⟩
    · rintro (h' | ⟨j, y, h1, h2⟩)
      · exact .inl h'
      · by_cases ne : i = j
        · subst ne
          exact .inr ⟨i, _, by rw [List.getElem?_set_self hi], h2⟩
        · exact .inr ⟨j, y, by rw [List.getElem?_set_ne ne]; exact h1, h2⟩
  have up : ∀ {v : V} {y : D}, Rl K (MM Γ ρ σ) H v y → Rl K (MM Γ (ρ.set i (some (.own (.list ds)))) σ) (upd H p (.lst ws)) v y := fun {v y} g =>
    Rl.ext (fun a o ea q => ⟨by rw [upd_ne (fun z => q (by rw [z]; exact hm))]; exact ea, fun z => q ((same a).mp z)⟩) y v g
  have upA : ∀ {us : List V} {ys : List D}, RlA K (MM Γ ρ σ) H us ys → RlA K (MM Γ (ρ.set i (some (.own (.list ds)))) σ) (upd H p (.lst ws)) us ys := fun {us ys} g =>
    RlA.ext (fun a o ea q => ⟨by rw [upd_ne (fun z => q (by rw [z]; exact hm))]; exact ea, fun z => q ((same a).mp z)⟩) ys us g
  have nsd : Γ.sd ≠ p := fun z => nA (by rw [← z]; exact F.msd)
  have nsc : Γ.sc ≠ p := fun z => nA (by rw [← z]; exact F.msc)
  refine ⟨fun b o hb h1 h2 => ?_, fun b hb => ?_, F.msd, F.msc, ?_, by simp [F.len], fun j y hj => ?_, fun j hj => ?_, fun j y hj => ?_, fun j l y z q h1 h2 h3 h4 => ?_, fun q hq => up (F.pin q hq)⟩
  · rw [upd_ne (fun z => by rw [z, h0] at hb; cases hb)]
    exact F.keep b o hb h1 h2
  · rw [upd_ne (fun z => nA (by rw [← z]; exact hb))]
    exact F.dom b hb
  · obtain ⟨s1, s2, s3⟩ := F.src
    exact ⟨by rw [upd_ne nsd]; exact s1, by rw [upd_ne nsc]; exact s2, s3⟩
  · rcases set_get hj with ⟨rfl, hl, e'⟩ | ⟨ne, hj⟩
    · cases e'
    · obtain ⟨u, e1, q⟩ := F.val j y hj
      exact ⟨u, e1, up q⟩
  · rcases set_get hj with ⟨rfl, hl, e'⟩ | ⟨ne, hj⟩
    · cases e'
    · exact F.srcv j hj
  · rcases set_get hj with ⟨rfl, hl, e'⟩ | ⟨ne, hj⟩
    · cases e'
      exact ⟨p, e, h0, nA, ws, ds, rfl, upd_same, upA r⟩
    · obtain ⟨q, e1, e0, nA', vs, ds', ex, e2, r'⟩ := F.own j y hj
      have nqp : q ≠ p := fun z => by
        subst z
        exact ne (F.inj i j x y q h hj e e1)
      exact ⟨q, e1, e0, nA', vs, ds', ex, by rw [upd_ne nqp]; exact e2, upA r'⟩
  · have h1' : ∃ y', ρ[j]? = some (some (.own y')) := by
      rcases set_get h1 with ⟨rfl, _, _⟩ | ⟨_, h1⟩
      · exact ⟨x, h⟩
      · exact ⟨y, h1⟩
    have h2' : ∃ y', ρ[l]? = some (some (.own y')) := by
      rcases set_get h2 with ⟨rfl, _, _⟩ | ⟨_, h2⟩
      · exact ⟨x, h⟩
      · exact ⟨z, h2⟩
    obtain ⟨y1, g1⟩ := h1'
    obtain ⟨y2, g2⟩ := h2'
    exact F.inj j l y1 y2 q g1 g2 h3 h4
/-- the frame's own list is changed no more -/
theorem FR.frz (F : FR K Γ ρ σ H s) (h : ρ[i]? = some (some (.own x))) : FR K Γ (ρ.set i (some (.d x))) σ H s := by
  obtain ⟨p, e, h0, nA, vs, ds, rfl, hp, r⟩ := F.own i x h
  have hi : i < ρ.length := (List.getElem?_eq_some_iff.mp h).1
  have up : ∀ b, MM Γ (ρ.set i (some (.d (.list ds)))) σ b → MM Γ ρ σ b := fun b g => by
    rcases g with g | ⟨j, y, h1, h2⟩
    · exact .inl g
    · rcases set_get h1 with ⟨_, _, e⟩ | ⟨ne, h1⟩
      · cases e
      · exact .inr ⟨j, y, h1, h2⟩
  have nm : ¬ MM Γ (ρ.set i (some (.d (.list ds)))) σ p := fun g => by
    rcases g with g | ⟨j, y, h1, h2⟩
    · exact nA g
    · rcases set_get h1 with ⟨_, _, e⟩ | ⟨ne, h1⟩
      · cases e
      · exact ne (F.inj i j _ y p h h1 e h2)
  refine ⟨F.keep, F.dom, F.msd, F.msc, F.src, by simp [F.len], fun j y h' => ?_, fun j h' => ?_, fun j y h' => ?_, fun j l y z q h1 h2 h3 h4 => ?_, fun q hq => (F.pin q hq).less up⟩
  · rcases set_get h' with ⟨rfl, hl, e'⟩ | ⟨ne, h'⟩
    · cases e'
      exact ⟨.ref p, e, .lst hp nm (r.less up)⟩
    · obtain ⟨u, e, q⟩ := F.val j y h'
      exact ⟨u, e, q.less up⟩
  · rcases set_get h' with ⟨rfl, hl, e'⟩ | ⟨ne, h'⟩
    · cases e'
    · exact F.srcv j h'
  · rcases set_get h' with ⟨rfl, hl, e'⟩ | ⟨ne, h'⟩
    · cases e'
    · obtain ⟨q, e, e0, nA', vs, ds, ex, e1, r⟩ := F.own j y h'
      exact ⟨q, e, e0, nA', vs, ds, ex, e1, r.less up⟩
  · rcases set_get h1 with ⟨rfl, _, e'⟩ | ⟨n1, h1⟩
    · cases e'
    · rcases set_get h2 with ⟨rfl, _, e'⟩ | ⟨n2, h2⟩
      · cases e'
      · exact F.inj j l y z q h1 h2 h3 h4
end
end Sm

set_option Elab.async false
set_option linter.all false
set_option maxRecDepth 100000
set_option maxHeartbeats 4000000
namespace Sm
open PySem PySem.Spec L2

/-! ### targets -/
inductive Tg where
  | nm (i : Nat) | tp (is : List Nat)
def asgN : List Nat → List D → Ev → Option Ev
  | [], [], ρ => some ρ
  | i :: is, x :: xs, ρ => asgN is xs (ρ.set i (some (.d x)))
  | _, _, _ => none
def asgT : List Tg → List Vl → Ev → Option Ev
  | [], [], ρ => some ρ
  | .nm i :: ts, .d x :: as, ρ => asgT ts as (ρ.set i (some (.d x)))
  | .nm i :: ts, .own x :: as, ρ => asgT ts as (ρ.set i (some (.own x)))
  | .tp is :: ts, .d (.tuple xs) :: as, ρ => (asgN is xs ρ).bind fun ρ' => asgT ts as ρ'
  | _, _, _ => none
/-- alike but for these places -/
def Off {α : Type} (is : List Nat) (l l' : List α) : Prop := l'.length = l.length ∧ ∀ j, j ∉ is → l'[j]? = l[j]?
theorem Off.refl {α : Type} {l : List α} (is : List Nat) : Off is l l := ⟨rfl, fun _ _ => rfl⟩
theorem Off.set {α : Type} {is : List Nat} {l l' : List α} {i : Nat} {a : α} (h : Off is (l.set i a) l') : Off (i :: is) l l' :=
  ⟨by simpa using h.1, fun j hj => by
    rw [h.2 j fun z => hj (List.mem_cons_of_mem _ z), List.getElem?_set_ne fun z => hj (by rw [z]; exact List.mem_cons_self)]⟩
theorem Off.trans {α : Type} {is js : List Nat} {l l' l2 : List α} (h : Off is l l') (g : Off js l' l2) : Off (is ++ js) l l2 :=
  ⟨g.1.trans h.1, fun j hj => (g.2 j fun z => hj (List.mem_append_right _ z)).trans (h.2 j fun z => hj (List.mem_append_left _ z))⟩
def Tg.sl : Tg → List Nat
  | .nm i => [i]
  | .tp is => is
def slT (tgs : List Tg) : List Nat := tgs.flatMap Tg.sl
theorem asgN_off : ∀ (is : List Nat) (xs : List D) (ρ ρ' : Ev), asgN is xs ρ = some ρ' → Off is ρ ρ'
  | [], [], _, _, e => by cases e; exact .refl _
  | [], _ :: _, _, _, e => by cases e
  | _ :: _, [], _, _, e => by cases e
  | i :: is, x :: xs, ρ, ρ', e => Off.set (asgN_off is xs _ ρ' e)
theorem asgT_off : ∀ (tgs : List Tg) (as : List Vl) (ρ ρ' : Ev), asgT tgs as ρ = some ρ' → Off (slT tgs) ρ ρ'
  | [], [], _, _, e => by cases e; exact .refl _
  | [], _ :: _, _, _, e => by cases e
  | .nm i :: ts, [], _, _, e => by cases e
  | .tp i :: ts, [], _, _, e => by cases e
  | .nm i :: ts, .d x :: as, ρ, ρ', e => Off.set (asgT_off ts as _ ρ' e)
  | .nm i :: ts, .own x :: as, ρ, ρ', e => Off.set (asgT_off ts as _ ρ' e)
  | .nm i :: ts, .src :: as, ρ, ρ', e => by cases e
  | .tp is :: ts, .d x :: as, ρ, ρ', e => by
    cases x with
    | tuple xs =>
      obtain ⟨ρ1, e1, e2⟩ := Option.bind_eq_some_iff.mp (show (asgN is xs ρ).bind (fun ρ' => asgT ts as ρ') = some ρ' from e)
      exact (asgN_off is xs _ _ e1).trans (asgT_off ts as _ _ e2)
    | _ => cases e
  | .tp is :: ts, .own x :: as, ρ, ρ', e => by cases e
  | .tp is :: ts, .src :: as, ρ, ρ', e => by cases e
/-- new lists that still wait for their slots -/
structure Wt (Γ : Gh) (ps : List Addr) : Prop where
  nd : ps.Nodup
  h0 : ∀ p ∈ ps, Γ.H0 p = none
  nA : ∀ p ∈ ps, ¬ Γ.A p
  a1 : Γ.A Γ.sd
  a2 : Γ.A Γ.sc
section
variable {K : PySem.W.Frag} {Γ : Gh} {ρ : Ev} {σ : L2.St} {H : Hp} {s : Ss} {i : Nat} {v : V} {x : D} {p : Addr} {ps : List Addr}
theorem LA.less {sd : Addr} {A A' : Addr → Prop} {vs : List V} {as : List Vl} (h : LA K sd A H ps vs as) (k : ∀ b, A' b → A b) : LA K sd A' H ps vs as := by
  induction h with
  | nil => exact .nil
  | d r _ ih => exact .d (r.less k) ih
  | own e r _ ih => exact .own e (r.less k) ih
  | src _ ih => exact .src ih
theorem Wt.tail (w : Wt Γ (p :: ps)) : Wt Γ ps := ⟨(List.nodup_cons.mp w.nd).2, fun q h => w.h0 q (List.mem_cons_of_mem _ h), fun q h => w.nA q (List.mem_cons_of_mem _ h), w.a1, w.a2⟩
theorem MM.own (hl : σ.length = ρ.length) {y : D} {b : Addr} (h : MM Γ (ρ.set i (some (.own y))) (σ.set i (some (.ref p))) b) : MM (Γ.add p) ρ σ b := by
  rcases h with h | ⟨j, z, h1, h2⟩
  · exact .inl (.inl h)
  · rcases set_get h1 with ⟨rfl, hi, e⟩ | ⟨ne, h1⟩
    · rw [List.getElem?_set_self (by rw [hl]; exact hi)] at h2
      cases h2
      exact .inl (.inr rfl)
    · rw [List.getElem?_set_ne ne] at h2
      exact .inr ⟨j, z, h1, h2⟩
/-- one value stored, the others still waiting -/
theorem store_d (w : Wt Γ ps) (F : FR K (Γ.adds ps) ρ σ H s) {vs : List V} {as : List Vl} (r : Rl K (MM (Γ.adds ps) ρ σ) H v x) (la : LA K Γ.sd (MM (Γ.adds ps) ρ σ) H ps vs as) :
    FR K (Γ.adds ps) (ρ.set i (some (.d x))) (σ.set i (some v)) H s ∧ LA K Γ.sd (MM (Γ.adds ps) (ρ.set i (some (.d x))) (σ.set i (some v))) H ps vs as :=
  ⟨F.setd r, la.less fun b h => MM.setd F.len (fun y z => by cases z) h⟩
theorem store_own (w : Wt Γ (p :: ps)) (F : FR K (Γ.adds (p :: ps)) ρ σ H s) {vs : List V} {as : List Vl} {ws : List V} {ds : List D} (hp : H p = some (.lst ws)) (r : RlA K (MM (Γ.adds (p :: ps)) ρ σ) H ws ds) (la : LA K Γ.sd (MM (Γ.adds (p :: ps)) ρ σ) H ps vs as) :
    FR K (Γ.adds ps) (ρ.set i (some (.own (.list ds)))) (σ.set i (some (.ref p))) H s ∧ LA K Γ.sd (MM (Γ.adds ps) (ρ.set i (some (.own (.list ds)))) (σ.set i (some (.ref p)))) H ps vs as := by
  have e : Γ.adds (p :: ps) = (Γ.adds ps).add p := by
    have e : (fun b => Γ.A b ∨ b ∈ p :: ps) = fun b => (Γ.A b ∨ b ∈ ps) ∨ b = p := by
      funext b
      simp only [List.mem_cons, eq_iff_iff]
      constructor
      · rintro (h | h | h)
        · exact .inl (.inl h)
        · exact .inr h
        · exact .inl (.inr h)
      · rintro ((h | h) | h)
        · exact .inl h
        · exact .inr (.inr h)
        · exact .inr (.inl h)
    show ({ Γ with A := fun b => Γ.A b ∨ b ∈ p :: ps } : Gh) = { Γ with A := fun b => (Γ.A b ∨ b ∈ ps) ∨ b = p }
    rw [e]
  rw [e] at F r la
  refine ⟨F.setown (.inl w.a1) (.inl w.a2) hp r (w.h0 p List.mem_cons_self) fun z => ?_, la.less fun b h => MM.own F.len h⟩
  rcases z with z | z
  · exact w.nA p List.mem_cons_self z
  · exact (List.nodup_cons.mp w.nd).1 z
end
/-- a row of targets: it takes the first values of a row -/
def STs (X : Cx) (ts : List Expr) (tgs : List Tg) : Prop := ∃ gs, PGs X ts gs ∧
  ∀ (Γ : Gh) (ps : List Addr) (ρ : Ev) (σ : L2.St) (H : Hp) (s : Ss) (vs vs2 : List V) (as as2 : List Vl) (ρ' : Ev) (Q : L2.St → Hp → Prop), Wt Γ ps → FR X.K (Γ.adds ps) ρ σ H s → vs.length = as.length → LA X.K Γ.sd (MM (Γ.adds ps) ρ σ) H ps (vs ++ vs2) (as ++ as2) →
    asgT tgs as ρ = some ρ' → (∀ σ' ps', Off (slT tgs) σ σ' → Wt Γ ps' → FR X.K (Γ.adds ps') ρ' σ' H s → LA X.K Γ.sd (MM (Γ.adds ps') ρ' σ') H ps' vs2 as2 → Q σ' H) → gs vs σ H Q
/-- a row of names -/
def SNs (X : Cx) (ts : List Expr) (is : List Nat) : Prop := ∃ gs, PGs X ts gs ∧
  ∀ (Γ : Gh) (ps : List Addr) (ρ : Ev) (σ : L2.St) (H : Hp) (s : Ss) (vs vs2 : List V) (xs : List D) (as2 : List Vl) (ρ' : Ev) (Q : L2.St → Hp → Prop), Wt Γ ps → FR X.K (Γ.adds ps) ρ σ H s → RlA X.K (MM (Γ.adds ps) ρ σ) H vs xs → LA X.K Γ.sd (MM (Γ.adds ps) ρ σ) H ps vs2 as2 →
    asgN is xs ρ = some ρ' → (∀ σ', Off is σ σ' → FR X.K (Γ.adds ps) ρ' σ' H s → LA X.K Γ.sd (MM (Γ.adds ps) ρ' σ') H ps vs2 as2 → Q σ' H) → gs vs σ H Q
section
variable {X : Cx} {e : Expr} {es : List Expr} {pos : Pos}
theorem sns_nil : SNs X [] [] := ⟨_, pgs_nil, fun Γ ps ρ σ H s vs vs2 xs as2 ρ' Q w F r la e k => by
  cases xs with
  | nil => cases r; cases e; exact ⟨rfl, k σ (.refl _) F la⟩
  | cons x xs => cases e⟩
theorem sns_cons (i : Nat) {x : Str} {is : List Nat} (hN : X.N.Nodup) (h : SNs X es is) (hi : X.N[i]? = some x := by rfl) (hx : Loc X.env.scope x := by first | exact Or.inl rfl | exact Or.inr rfl) (hf : X.fn x = true ∨ X.env.scope.names.lookup x = some .local := by first | exact .inl rfl | exact .inr rfl)
    (hs : (assignEach (.Name x pos :: es) X.env).map (·.2) = assign (.Name x pos) X.env :: (assignEach es X.env).map (·.2) := by rfl) : SNs X (.Name x pos :: es) (i :: is) := by
  obtain ⟨gs, hg, h⟩ := h
  refine ⟨_, pgs_cons (pg_name hN hi hx hf) hg hs, fun Γ ps ρ σ H s vs vs2 xs as2 ρ' Q w F r la e k => ?_⟩
  cases xs with
  | nil => cases e
  | cons x xs =>
    cases r with
    | cons r1 r2 =>
      obtain ⟨F1, la1⟩ := store_d (i := i) w F r1 la
      have r2' := fun v => r2.less fun b q => MM.setd (v := v) (i := i) (w := .d x) F.len (fun y z => by cases z) q
      exact ⟨_, _, rfl, h Γ ps _ _ H s _ vs2 xs as2 ρ' Q w F1 (r2' _) la1 e fun σ' o => k σ' o.set⟩
theorem sts_nil : STs X [] [] := ⟨_, pgs_nil, fun Γ ps ρ σ H s vs vs2 as as2 ρ' Q w F hl la e k => by
  cases as with
  | nil =>
    cases vs with
    | nil => cases e; exact ⟨rfl, k σ ps (.refl _) w F la⟩
    | cons v vs => simp at hl
  | cons a as => cases e⟩
theorem sts_nm (i : Nat) {x : Str} {tgs : List Tg} (hN : X.N.Nodup) (h : STs X es tgs) (hi : X.N[i]? = some x := by rfl) (hx : Loc X.env.scope x := by first | exact Or.inl rfl | exact Or.inr rfl) (hf : X.fn x = true ∨ X.env.scope.names.lookup x = some .local := by first | exact .inl rfl | exact .inr rfl)
    (hs : (assignEach (.Name x pos :: es) X.env).map (·.2) = assign (.Name x pos) X.env :: (assignEach es X.env).map (·.2) := by rfl) : STs X (.Name x pos :: es) (.nm i :: tgs) := by
  obtain ⟨gs, hg, h⟩ := h
  refine ⟨_, pgs_cons (pg_name hN hi hx hf) hg hs, fun Γ ps ρ σ H s vs vs2 as as2 ρ' Q w F hl la e k => ?_⟩
  cases as with
  | nil => cases e
  | cons a as =>
    cases vs with
    | nil => simp at hl
    | cons v vs =>
      have hl' : vs.length = as.length := by simpa using hl
      cases a with
      | d y =>
        cases la with
        | d r la =>
          obtain ⟨F1, la1⟩ := store_d (i := i) w F r la
          exact ⟨_, _, rfl, h Γ ps _ _ H s _ vs2 as as2 ρ' Q w F1 hl' la1 e fun σ' ps' o => k σ' ps' (Off.set o)⟩
      | own y =>
        cases la with
        | own hp r la =>
          obtain ⟨F1, la1⟩ := store_own (i := i) w F hp r la
          exact ⟨_, _, rfl, h Γ _ _ _ H s _ vs2 as as2 ρ' Q w.tail F1 hl' la1 e fun σ' ps' o => k σ' ps' (Off.set o)⟩
      | src => cases e
theorem sts_tp {ts : List Expr} {is : List Nat} {tgs : List Tg} {kk : Nat} (hc : X.calm = true) (h1 : SNs X ts is) (h : STs X es tgs) (hn : (assignEach ts X.env).length = is.length := by rfl) (hst : (assignEach ts X.env).findIdx? (·.1) = none := by rfl)
    (hs : (assignEach (.Tuple ts kk pos :: es) X.env).map (·.2) = assign (.Tuple ts kk pos) X.env :: (assignEach es X.env).map (·.2) := by rfl) : STs X (.Tuple ts kk pos :: es) (.tp is :: tgs) := by
  obtain ⟨gs, hg, h⟩ := h
  obtain ⟨g1, hg1, h1⟩ := h1
  refine ⟨_, pgs_cons (pg_tup hc hg1 hn hst) hg hs, fun Γ ps ρ σ H s vs vs2 as as2 ρ' Q w F hl la e k => ?_⟩
  cases as with
  | nil => cases e
  | cons a as =>
    cases vs with
    | nil => simp at hl
    | cons v vs =>
      have hl' : vs.length = as.length := by simpa using hl
      cases a with
      | d y =>
        cases y with
        | tuple xs =>
          obtain ⟨ρ1, e1, e2⟩ := Option.bind_eq_some_iff.mp (show (asgN is xs ρ).bind (fun ρ' => asgT tgs as ρ') = some ρ' from e)
          cases la with
          | d r la =>
            cases r with
            | tup rt ra =>
              have hlen : is.length = xs.length := by
                have : ∀ (is : List Nat) (xs : List D) (ρ ρ1 : Ev), asgN is xs ρ = some ρ1 → is.length = xs.length := by
                  intro is
                  induction is with
                  | nil => intro xs ρ ρ1 e; cases xs with
                    | nil => rfl
                    | cons x xs => cases e
                  | cons i is ih => intro xs ρ ρ1 e; cases xs with
                    | nil => cases e
                    | cons x xs => simp [ih xs _ _ e]
                exact this is xs ρ ρ1 e1
              refine ⟨_, _, rfl, _, _, rfl, rt.sq, by rw [ra.length, hlen], h1 Γ ps ρ σ H s _ (vs ++ vs2) xs (as ++ as2) ρ1 _ w F ra la e1 fun σ1 o1 F1 la1 => ?_⟩
              exact h Γ ps ρ1 σ1 H s vs vs2 as as2 ρ' Q w F1 hl' la1 e2 fun σ' ps' o => k σ' ps' (o1.trans o)
        | _ => cases e
      | _ => cases e
end
theorem LA.nx {K : PySem.W.Frag} {Γ : Gh} {ρ : Ev} {σ : L2.St} {H H' : Hp} {s : Ss} {ps : List Addr} (F : FR K (Γ.adds ps) ρ σ H s) (w : Wt Γ ps) (n : Xs (Γ.adds ps) H H') : ∀ {qs : List Addr} {vs : List V} {as : List Vl}, (∀ q ∈ qs, q ∈ ps) → LA K Γ.sd (MM (Γ.adds ps) ρ σ) H qs vs as → LA K Γ.sd (MM (Γ.adds ps) ρ σ) H' qs vs as := by
  intro qs vs as hq la
  induction la with
  | nil => exact .nil
  | d r _ ih => exact .d (F.rl n r) (ih hq)
  | own e r _ ih =>
    have hp := hq _ List.mem_cons_self
    refine .own (n _ _ e (fun z => w.nA _ hp (by rw [z]; exact w.a1)) (fun z => w.nA _ hp (by rw [z]; exact w.a2))) (F.rlA n r) (ih fun q h => hq q (List.mem_cons_of_mem _ h))
  | src _ ih => exact .src (ih hq)
theorem LR.wt {K : PySem.W.Frag} {Γ : Gh} {ρ : Ev} {σ : L2.St} {H H' : Hp} {s s' : Ss} {ps : List Addr} (F : FR K Γ ρ σ H s) (nd : ps.Nodup) (hn : ∀ p ∈ ps, H p = none) : Wt Γ ps := by
  refine ⟨nd, fun p hp => ?_, fun p hp hA => ?_, F.msd, F.msc⟩
  · cases q : Γ.H0 p with
    | none => rfl
    | some o =>
      have h := hn p hp
      by_cases h1 : p = Γ.sd
      · rw [h1, F.src.1] at h; cases h
      · by_cases h2 : p = Γ.sc
        · rw [h2, F.src.2.1] at h; cases h
        · rw [F.keep p o q h1 h2] at h; cases h
  · obtain ⟨o, e⟩ := F.dom p hA
    rw [hn p hp] at e; cases e

/-! ### assignments -/
def sSet (i : Nat) (f : Ev → M D) : Ev → M Out := fun ρ => bnd (f ρ) fun x => ret (.nx (ρ.set i (some (.d x))))
def sOwn (i : Nat) (f : Ev → M D) : Ev → M Out := fun ρ => bnd (f ρ) fun x => ret (.nx (ρ.set i (some (.own x))))
/-- targets = a written tuple -/
def sTup (tgs : List Tg) (f : Ev → M (List Vl)) : Ev → M Out := fun ρ => bnd (f ρ) fun as => bnd (ofO (asgT tgs as ρ)) fun ρ' => if as.length ≤ LIM then ret (.nx ρ') else err
/-- targets = a value -/
def sUnp (tgs : List Tg) (f : Ev → M D) : Ev → M Out := fun ρ => bnd (f ρ) fun x => match x with
  | .tuple xs => bnd (ofO (asgT tgs (xs.map Vl.d) ρ)) fun ρ' => ret (.nx ρ')
  | _ => err
/-- changed no more -/
def sFrz (i : Nat) : Ev → M Out := fun ρ => match ρ[i]? with
  | some (some (.own x)) => ret (.nx (ρ.set i (some (.d x))))
  | _ => ret (.nx ρ)
section
variable {X : Cx} {e : Expr} {es ts : List Expr} {pos : Pos} {fe : Ev → M D} {fa : Ev → M (List Vl)}
theorem ss_set (i : Nat) {x : Str} {pos' : Pos} (hN : X.N.Nodup) (he : SE X e fe) (hi : X.N[i]? = some x := by rfl) (hx : Loc X.env.scope x := by first | exact Or.inl rfl | exact Or.inr rfl) (hs : swapsWith e (some (.Name x pos')) pos.line X.env = pure false := by rfl)
    (hf : X.fn x = true ∨ X.env.scope.names.lookup x = some .local := by first | exact .inl rfl | exact .inr rfl) : SS X (.Assign [.Name x pos'] e pos) (sSet i fe) := ps_imp (ps_set hN hi hx he hs hf) fun C σ H ⟨Γ, ρ, s, o, s', F, e, k⟩ => by
  obtain ⟨y, s1, e1, e⟩ := bnd_some e
  obtain ⟨rfl, rfl⟩ := ret_some e
  exact ⟨Γ, ρ, s, y, s1, F, e1, fun v H' n r => k _ H' ((F.nx n).setd r)⟩
theorem own_end {K : PySem.W.Frag} {Γ : Gh} {ρ : Ev} {σ : L2.St} {H H' : Hp} {s s' : Ss} {v : V} {y : D} {i : Nat} (F : FR K Γ ρ σ H s) (n : Nx Γ H H' s') (r : RlF K Γ ρ σ H H' v y) : FR K Γ (ρ.set i (some (.own y))) (σ.set i (some v)) H' s' := by
  obtain ⟨p, ws, ds, rfl, rfl, hn, hp, r⟩ := r
  have w := LR.wt (H' := H') (s' := s') (ps := [p]) F (by simp) (by simpa using hn)
  exact (F.new n hn hp).setown F.msd F.msc hp r (w.h0 p (by simp)) (w.nA p (by simp))
theorem ss_own (i : Nat) {x : Str} {pos' : Pos} (hN : X.N.Nodup) (he : SF X e fe) (hi : X.N[i]? = some x := by rfl) (hx : Loc X.env.scope x := by first | exact Or.inl rfl | exact Or.inr rfl) (hs : swapsWith e (some (.Name x pos')) pos.line X.env = pure false := by rfl)
    (hf : X.fn x = true ∨ X.env.scope.names.lookup x = some .local := by first | exact .inl rfl | exact .inr rfl) : SS X (.Assign [.Name x pos'] e pos) (sOwn i fe) := ps_imp (ps_set hN hi hx he hs hf) fun C σ H ⟨Γ, ρ, s, o, s', F, e, k⟩ => by
  obtain ⟨y, s1, e1, e⟩ := bnd_some e
  obtain ⟨rfl, rfl⟩ := ret_some e
  exact ⟨Γ, ρ, s, y, s1, F, e1, fun v H' n r => k _ H' (own_end F n r)⟩
theorem asgT_len : ∀ (tgs : List Tg) (as : List Vl) (ρ ρ' : Ev), asgT tgs as ρ = some ρ' → tgs.length = as.length
  | [], [], _, _, _ => rfl
  | [], _ :: _, _, _, e => by cases e
  | .nm i :: ts, [], _, _, e => by cases e
  | .tp i :: ts, [], _, _, e => by cases e
  | .nm i :: ts, .d x :: as, ρ, ρ', e => by simp [asgT_len ts as _ _ (show asgT ts as _ = some ρ' from e)]
  | .nm i :: ts, .own x :: as, ρ, ρ', e => by simp [asgT_len ts as _ _ (show asgT ts as _ = some ρ' from e)]
  | .nm i :: ts, .src :: as, ρ, ρ', e => by cases e
  | .tp is :: ts, .d x :: as, ρ, ρ', e => by
    cases x with
    | tuple xs =>
      obtain ⟨ρ1, _, e2⟩ := Option.bind_eq_some_iff.mp (show (asgN is xs ρ).bind (fun ρ' => asgT ts as ρ') = some ρ' from e)
      simp [asgT_len ts as _ _ e2]
    | _ => cases e
  | .tp is :: ts, .own x :: as, ρ, ρ', e => by cases e
  | .tp is :: ts, .src :: as, ρ, ρ', e => by cases e
/-- targets = a written tuple, by the tuple -/
theorem ss_tup {tgs : List Tg} {kt k2 : Nat} {pt pt2 : Pos} (hc : X.calm = true) (hT : STs X ts tgs) (ha : SA X es fa) (hn : (assignEach ts X.env).length = tgs.length := by rfl) (hst : (assignEach ts X.env).findIdx? (·.1) = none := by rfl)
    (hs : swapsWithSole [.Tuple ts kt pt] (.Tuple es k2 pt2) pos.line X.env = pure false := by rfl) (hw : swappedStores [.Tuple ts kt pt] (.Tuple es k2 pt2) X.env = pure none := by rfl)
    (h1 : (assignEach [.Tuple ts kt pt] X.env).map (·.2) = [assign (.Tuple ts kt pt) X.env] := by rfl) : SS X (.Assign [.Tuple ts kt pt] (.Tuple es k2 pt2) pos) (sTup tgs fa) := by
  obtain ⟨gs, hg, h⟩ := hT
  refine ps_imp (ps_asg (pe_tup ha) (pg_tup hc hg hn hst) hs hw h1) fun C σ H ⟨Γ, ρ, s, o, s', F, e, k⟩ => ?_
  obtain ⟨as, s1, e1, e⟩ := bnd_some e
  obtain ⟨ρ', s2, e2, e⟩ := bnd_some e
  obtain ⟨e2', rfl⟩ := ofO_some e2
  split at e
  · rename_i hlim
    obtain ⟨rfl, rfl⟩ := ret_some e
    refine ⟨Γ, ρ, s, as, s1, F, e1, fun vs H1 n1 ⟨ps, nd, hm, F1, la⟩ => ?_⟩
    have w := LR.wt (H' := H1) (s' := s1) F nd hm
    have hl := la.length
    refine ⟨lim_ok (by rw [hl]; exact hlim), fun T hT => ?_⟩
    have nT := F1.nx0.laid (o := .tup vs) hT
    have F2 := F1.nx nT
    have la2 := LA.nx F1 w nT.xs (fun q h => h) la
    refine ⟨T, vs, rfl, SqT.of upd_same, by rw [hl]; exact (asgT_len tgs as ρ ρ' e2').symm, ?_⟩
    refine h Γ ps ρ σ (upd H1 T (.tup vs)) s1 vs [] as [] ρ' _ w F2 hl (by simpa using la2) e2' fun σ' ps' _ w' F' la' => ?_
    cases la'
    rw [Gh.adds_nil] at F'
    exact k σ' _ F'
  · cases e
end
/-- names stored from a row, in the end's order -/
def setS : List Nat → List V → L2.St → L2.St
  | i :: is, v :: vs, σ => setS is vs (σ.set i (some v))
  | _, _, σ => σ
theorem rows_nm {K : PySem.W.Frag} {Γ : Gh} {H : Hp} {s : Ss} : ∀ (is : List Nat) (vs : List V) (as : List Vl) (ps : List Addr) (ρ : Ev) (σ : L2.St) (ρ' : Ev), Wt Γ ps → FR K (Γ.adds ps) ρ σ H s → LA K Γ.sd (MM (Γ.adds ps) ρ σ) H ps vs as →
    asgT (is.map Tg.nm) as ρ = some ρ' → FR K Γ ρ' (setS is vs σ) H s
  | [], vs, as, ps, ρ, σ, ρ', w, F, la, e => by
    cases as with
    | nil =>
      cases e
      cases la
      rw [Gh.adds_nil] at F
      exact F
    | cons a as => cases e
  | i :: is, vs, as, ps, ρ, σ, ρ', w, F, la, e => by
    cases as with
    | nil => cases e
    | cons a as =>
      cases a with
      | d y =>
        cases la with
        | d r la =>
          obtain ⟨F1, la1⟩ := store_d (i := i) w F r la
          exact rows_nm is _ as ps _ _ ρ' w F1 la1 e
      | own y =>
        cases la with
        | own hp r la =>
          obtain ⟨F1, la1⟩ := store_own (i := i) w F hp r la
          exact rows_nm is _ as _ _ _ ρ' w.tail F1 la1 e
      | src => cases e
section
variable {X : Cx} {a b c : Expr} {pos px py pz pt pt2 : Pos} {fe : Ev → M D} {fa : Ev → M (List Vl)} {x y z : Str} {kt k2 : Nat}
theorem sTup_some {tgs : List Tg} {ρ : Ev} {s s' : Ss} {o : Out} (e : sTup tgs fa ρ s = some (o, s')) : ∃ as ρ', fa ρ s = some (as, s') ∧ asgT tgs as ρ = some ρ' ∧ o = .nx ρ' := by
  obtain ⟨as, s1, e1, e⟩ := bnd_some e
  obtain ⟨ρ', s2, e2, e⟩ := bnd_some e
  obtain ⟨e2', rfl⟩ := ofO_some e2
  split at e
  · obtain ⟨rfl, rfl⟩ := ret_some e
    exact ⟨as, ρ', e1, e2', rfl⟩
  · cases e
theorem ss_par (i j : Nat) (hc : X.calm = true) (hN : X.N.Nodup) (ha : SA X [a, b] fa) (hi : X.N[i]? = some x := by rfl) (hj : X.N[j]? = some y := by rfl) (hij : i ≠ j := by decide)
    (hx : X.env.scope.names.lookup x = some .local := by rfl) (hy : X.env.scope.names.lookup y = some .local := by rfl)
    (hw : swappedStores [.Tuple [.Name x px, .Name y py] kt pt] (.Tuple [a, b] k2 pt2) X.env = pure (some [x, y]) := by rfl)
    (hs : swapsWithSole [.Tuple [.Name x px, .Name y py] kt pt] (.Tuple [a, b] k2 pt2) pos.line X.env = pure false := by rfl) :
    SS X (.Assign [.Tuple [.Name x px, .Name y py] kt pt] (.Tuple [a, b] k2 pt2) pos) (sTup [.nm i, .nm j] fa) := ps_imp (ps_par hc hN hi hj hij hx hy ha hw hs) fun C σ H ⟨Γ, ρ, s, o, s', F, e, k⟩ => by
  obtain ⟨as, ρ', e1, e2, rfl⟩ := sTup_some e
  refine ⟨Γ, ρ, s, as, s', F, e1, fun vs H1 n1 ⟨ps, nd, hm, F1, la⟩ => ?_⟩
  have w := LR.wt (H' := H1) (s' := s') F nd hm
  have hl := la.length
  rw [← asgT_len _ _ _ _ e2] at hl
  obtain ⟨v1, v2, rfl⟩ : ∃ v1 v2, vs = [v1, v2] := by
    match vs, hl with
    | [v1, v2], _ => exact ⟨v1, v2, rfl⟩
  exact ⟨v1, v2, rfl, k _ H1 (rows_nm [i, j] [v1, v2] as ps ρ σ ρ' w F1 la e2)⟩
theorem ss_par3 (i j l : Nat) (hc : X.calm = true) (hN : X.N.Nodup) (ha : SA X [a, b, c] fa) (hi : X.N[i]? = some x := by rfl) (hj : X.N[j]? = some y := by rfl) (hl : X.N[l]? = some z := by rfl) (hij : i ≠ j := by decide) (hil : i ≠ l := by decide) (hjl : j ≠ l := by decide)
    (hx : X.env.scope.names.lookup x = some .local := by rfl) (hy : X.env.scope.names.lookup y = some .local := by rfl) (hz : X.env.scope.names.lookup z = some .local := by rfl)
    (hw : swappedStores [.Tuple [.Name x px, .Name y py, .Name z pz] kt pt] (.Tuple [a, b, c] k2 pt2) X.env = pure (some [x, y, z]) := by rfl)
    (hs : swapsWithSole [.Tuple [.Name x px, .Name y py, .Name z pz] kt pt] (.Tuple [a, b, c] k2 pt2) pos.line X.env = pure false := by rfl) :
    SS X (.Assign [.Tuple [.Name x px, .Name y py, .Name z pz] kt pt] (.Tuple [a, b, c] k2 pt2) pos) (sTup [.nm i, .nm j, .nm l] fa) := ps_imp (ps_par3 hc hN hi hj hl hij hil hjl hx hy hz ha hw hs) fun C σ H ⟨Γ, ρ, s, o, s', F, e, k⟩ => by
  obtain ⟨as, ρ', e1, e2, rfl⟩ := sTup_some e
  refine ⟨Γ, ρ, s, as, s', F, e1, fun vs H1 n1 ⟨ps, nd, hm, F1, la⟩ => ?_⟩
  have w := LR.wt (H' := H1) (s' := s') F nd hm
  have hl := la.length
  rw [← asgT_len _ _ _ _ e2] at hl
  obtain ⟨v1, v2, v3, rfl⟩ : ∃ v1 v2 v3, vs = [v1, v2, v3] := by
    match vs, hl with
    | [v1, v2, v3], _ => exact ⟨v1, v2, v3, rfl⟩
  exact ⟨v1, v2, v3, rfl, k _ H1 (rows_nm [i, j, l] [v1, v2, v3] as ps ρ σ ρ' w F1 la e2)⟩
end
/-- one target: what it does with a value -/
def asg1 : Option Nat → List Tg → D → Ev → Option Ev
  | some i, _, x, ρ => some (ρ.set i (some (.d x)))
  | none, tgs, x, ρ => match x with
    | .tuple xs => asgT tgs (xs.map Vl.d) ρ
    | _ => none
def sl1 : Option Nat → List Tg → List Nat
  | some i, _ => [i]
  | none, tgs => slT tgs
def tG (K : PySem.W.Frag) (oi : Option Nat) (tgs : List Tg) : TG := fun v σ H Q => ∃ (Γ : Gh) (ρ : Ev) (s : Ss) (x : D) (ρ' : Ev), FR K Γ ρ σ H s ∧ Rl K (MM Γ ρ σ) H v x ∧ asg1 oi tgs x ρ = some ρ' ∧ ∀ σ', Off (sl1 oi tgs) σ σ' → FR K Γ ρ' σ' H s → Q σ' H
abbrev SG (X : Cx) (t : Expr) (oi : Option Nat) (tgs : List Tg) : Prop := PG X t (tG X.K oi tgs)
theorem pg_imp {X : Cx} {e : Expr} {t t' : TG} (h : PG X e t) (w : ∀ v σ H Q, t' v σ H Q → t v σ H Q) : PG X e t' := ⟨fun pins s σ H v u Q I r q => h.run pins s σ H v u Q I r (w v σ H Q q)⟩
section
variable {X : Cx} {ts : List Expr} {pos : Pos} {tgs : List Tg} {e : Expr} {fe : Ev → M D}
theorem sg_nm (i : Nat) {x : Str} (hN : X.N.Nodup) (hi : X.N[i]? = some x := by rfl) (hx : Loc X.env.scope x := by first | exact Or.inl rfl | exact Or.inr rfl) (hf : X.fn x = true ∨ X.env.scope.names.lookup x = some .local := by first | exact .inl rfl | exact .inr rfl) : SG X (.Name x pos) (some i) [] :=
  pg_imp (pg_name hN hi hx hf) fun v σ H Q ⟨Γ, ρ, s, x, ρ', F, r, e, k⟩ => by
    cases e
    exact k _ (Off.set (.refl _)) (F.setd r)
theorem sg_tup {kk : Nat} (hc : X.calm = true) (hT : STs X ts tgs) (hn : (assignEach ts X.env).length = tgs.length := by rfl) (hst : (assignEach ts X.env).findIdx? (·.1) = none := by rfl) : SG X (.Tuple ts kk pos) none tgs := by
  obtain ⟨gs, hg, h⟩ := hT
  refine pg_imp (pg_tup hc hg hn hst) fun v σ H Q ⟨Γ, ρ, s, x, ρ', F, r, e, k⟩ => ?_
  cases x with
  | tuple xs =>
    have e : asgT tgs (xs.map Vl.d) ρ = some ρ' := e
    cases r with
    | tup rt ra =>
      have hl := asgT_len _ _ _ _ e
      rw [List.length_map] at hl
      refine ⟨_, _, rfl, rt.sq, by rw [ra.length, hl], ?_⟩
      have la : LA X.K Γ.sd (MM (Γ.adds []) ρ σ) H [] _ (xs.map Vl.d ++ []) := LA.dats (by rw [Gh.adds_nil]; exact ra) .nil
      have F0 : FR X.K (Γ.adds []) ρ σ H s := by rw [Gh.adds_nil]; exact F
      refine h Γ [] ρ σ H s _ [] _ [] ρ' Q ⟨.nil, by simp, by simp, F.msd, F.msc⟩ F0 (by rw [ra.length, List.length_map]) la e fun σ' ps' o w' F' la' => ?_
      cases la'
      rw [Gh.adds_nil] at F'
      exact k σ' o F'
  | _ => cases e
def sAsg (oi : Option Nat) (tgs : List Tg) (f : Ev → M D) : Ev → M Out := fun ρ => bnd (f ρ) fun x => bnd (ofO (asg1 oi tgs x ρ)) fun ρ' => ret (.nx ρ')
/-- targets = a value that is a tuple -/
theorem ss_unp {kt : Nat} {pt : Pos} (hg : SG X (.Tuple ts kt pt) none tgs) (he : SE X e fe) (hs : swapsWithSole [.Tuple ts kt pt] e pos.line X.env = pure false := by rfl) (hw : swappedStores [.Tuple ts kt pt] e X.env = pure none := by rfl)
    (h1 : (assignEach [.Tuple ts kt pt] X.env).map (·.2) = [assign (.Tuple ts kt pt) X.env] := by rfl) : SS X (.Assign [.Tuple ts kt pt] e pos) (sAsg none tgs fe) := by
  refine ps_imp (ps_asg he hg hs hw h1) fun C σ H ⟨Γ, ρ, s, o, s', F, e, k⟩ => ?_
  obtain ⟨x, s1, e1, e⟩ := bnd_some e
  obtain ⟨ρ', s2, e2, e⟩ := bnd_some e
  obtain ⟨e2', rfl⟩ := ofO_some e2
  obtain ⟨rfl, rfl⟩ := ret_some e
  exact ⟨Γ, ρ, s, x, s1, F, e1, fun v H1 n1 r1 => ⟨Γ, ρ, s1, x, ρ', F.nx n1, r1, e2', fun σ' _ F' => k σ' H1 F'⟩⟩
end
/-- from here on the frame's own list is changed no more -/
def frz (ρ : Ev) (i : Nat) : Ev := match ρ[i]? with
  | some (some (.own x)) => ρ.set i (some (.d x))
  | _ => ρ
theorem ss_frz {X : Cx} {sts : List Stmt} {f : Ev → M Out} (i : Nat) (h : SSs X sts f) : SSs X sts (fun ρ => f (frz ρ i)) := pss_imp h fun C σ H ⟨Γ, ρ, s, o, s', F, e, k⟩ => by
  refine ⟨Γ, frz ρ i, s, o, s', ?_, e, k⟩
  unfold frz
  split
  · rename_i q
    exact F.frz q
  · exact F
end Sm

set_option Elab.async false
set_option linter.all false
set_option maxRecDepth 100000
set_option maxHeartbeats 4000000
namespace Sm
open PySem PySem.Spec L2

/-! ### while -/
def whileN (g : Ev → M Bool) (b : Ev → M Out) : Nat → Ev → M Out
  | 0 => fun _ => err
  | n + 1 => fun ρ => bnd (g ρ) fun k => if k = true then bnd (b ρ) fun o => (match o with
    | .nx ρ' => whileN g b n ρ'
    | .rt x => ret (.rt x)) else ret (.nx ρ)
section
variable {g : Ev → M Bool} {b : Ev → M Out}
theorem whileN_mono : ∀ (n : Nat) (ρ : Ev) (s : Ss) (r : Out × Ss), whileN g b n ρ s = some r → whileN g b (n + 1) ρ s = some r
  | 0, _, _, _, e => by cases e
  | n + 1, ρ, s, (o, s'), e => by
    obtain ⟨k, s1, e1, e⟩ := bnd_some (show bnd (g ρ) _ s = some (o, s') from e)
    show bnd (g ρ) _ s = some (o, s')
    unfold bnd
    rw [e1]
    cases k with
    | false => exact e
    | true =>
      have e : bnd (b ρ) (fun o => match o with
        | .nx ρ' => whileN g b n ρ'
        | .rt x => ret (.rt x)) s1 = some (o, s') := e
      obtain ⟨o1, s2, e2, e⟩ := bnd_some e
      show bnd (b ρ) (fun o => match o with
        | .nx ρ' => whileN g b (n + 1) ρ'
        | .rt x => ret (.rt x)) s1 = some (o, s')
      unfold bnd
      rw [e2]
      cases o1 with
      | nx ρ' => exact whileN_mono n ρ' s2 _ e
      | rt x => exact e
theorem whileN_le {n m : Nat} (h : n ≤ m) {ρ : Ev} {s : Ss} {r : Out × Ss} (e : whileN g b n ρ s = some r) : whileN g b m ρ s = some r := by
  induction h with
  | refl => exact e
  | step _ ih => exact whileN_mono _ _ _ _ ih
open Classical in
/-- the while's value: what some number of turns gives -/
noncomputable def sWhile (g : Ev → M Bool) (b : Ev → M Out) : Ev → M Out := fun ρ s => if h : ∃ n r, whileN g b n ρ s = some r then some h.choose_spec.choose else none
theorem sWhile_iff {ρ : Ev} {s : Ss} {r : Out × Ss} : sWhile g b ρ s = some r ↔ ∃ n, whileN g b n ρ s = some r := by
  unfold sWhile
  constructor
  · intro h
    split at h
    · rename_i q
      have := q.choose_spec.choose_spec
      cases h
      exact ⟨_, this⟩
    · cases h
  · rintro ⟨n, e⟩
    have q : ∃ n r, whileN g b n ρ s = some r := ⟨n, r, e⟩
    rw [dif_pos q]
    have h := q.choose_spec.choose_spec
    have h1 := whileN_le (Nat.le_max_left q.choose n) h
    have h2 := whileN_le (Nat.le_max_right q.choose n) e
    rw [h1] at h2
    exact h2
theorem sWhile_eq (ρ : Ev) : sWhile g b ρ = bnd (g ρ) fun k => if k = true then bnd (b ρ) fun o => (match o with
    | .nx ρ' => sWhile g b ρ'
    | .rt x => ret (.rt x)) else ret (.nx ρ) := by
  funext s
  have key : ∀ r : Out × Ss, sWhile g b ρ s = some r ↔ (bnd (g ρ) fun k => if k = true then bnd (b ρ) fun o => (match o with
    | .nx ρ' => sWhile g b ρ'
    | .rt x => ret (.rt x)) else ret (.nx ρ)) s = some r := by
    rintro ⟨o, s'⟩
    constructor
    · intro h
      obtain ⟨n, e⟩ := sWhile_iff.mp h
      cases n with
      | zero => cases e
      | succ n =>
        obtain ⟨k, s1, e1, e⟩ := bnd_some (show bnd (g ρ) _ s = some (o, s') from e)
        unfold bnd
        rw [e1]
        cases k with
        | false => exact e
        | true =>
          have e : bnd (b ρ) (fun o => match o with
            | .nx ρ' => whileN g b n ρ'
            | .rt x => ret (.rt x)) s1 = some (o, s') := e
          obtain ⟨o1, s2, e2, e⟩ := bnd_some e
          show bnd (b ρ) (fun o => match o with
            | .nx ρ' => sWhile g b ρ'
            | .rt x => ret (.rt x)) s1 = some (o, s')
          unfold bnd
          rw [e2]
          cases o1 with
          | nx ρ' => exact sWhile_iff.mpr ⟨n, e⟩
          | rt x => exact e
    · intro h
      obtain ⟨k, s1, e1, e⟩ := bnd_some h
      refine sWhile_iff.mpr ?_
      cases k with
      | false => exact ⟨1, by show bnd (g ρ) _ s = _; unfold bnd; rw [e1]; exact e⟩
      | true =>
        have e : bnd (b ρ) (fun o => match o with
          | .nx ρ' => sWhile g b ρ'
          | .rt x => ret (.rt x)) s1 = some (o, s') := e
        obtain ⟨o1, s2, e2, e⟩ := bnd_some e
        cases o1 with
        | nx ρ' =>
          obtain ⟨n, e3⟩ := sWhile_iff.mp e
          refine ⟨n + 1, ?_⟩
          show bnd (g ρ) _ s = _
          unfold bnd
          rw [e1]
          show bnd (b ρ) (fun o => match o with
            | .nx ρ' => whileN g b n ρ'
            | .rt x => ret (.rt x)) s1 = some (o, s')
          unfold bnd
          rw [e2]
          exact e3
        | rt x =>
          refine ⟨1, ?_⟩
          show bnd (g ρ) _ s = _
          unfold bnd
          rw [e1]
          show bnd (b ρ) (fun o => match o with
            | .nx ρ' => whileN g b 0 ρ'
            | .rt x => ret (.rt x)) s1 = some (o, s')
          unfold bnd
          rw [e2]
          exact e
  cases h : sWhile g b ρ s with
  | some r => exact ((key r).mp h).symm
  | none =>
    cases h2 : (bnd (g ρ) fun k => if k = true then bnd (b ρ) fun o => (match o with
    | .nx ρ' => sWhile g b ρ'
    | .rt x => ret (.rt x)) else ret (.nx ρ)) s with
    | none => rfl
    | some r => rw [(key r).mpr h2] at h; cases h
end
section
variable {X : Cx} {c : Expr} {body : List Stmt} {pos : Pos} {gc : Ev → M Bool} {fb : Ev → M Out}
theorem ss_while (hp : PassesOwn (model X.prog X.w) X.A X.env X.xe) (hc : SB X c gc) (hb : SSs X body fb) : SS X (.While c body [] pos) (sWhile gc fb) := ps_imp (ps_while hp hc hb) fun C σ H ⟨Γ, ρ, s, o, s', F, e, k⟩ => by
  obtain ⟨n, e⟩ := sWhile_iff.mp e
  refine ⟨fun m σ H => ∃ ρ s, FR X.K Γ ρ σ H s ∧ whileN gc fb m ρ s = some (o, s'), ⟨n, ρ, s, F, e⟩, ?_⟩
  rintro m σ1 H1 ⟨ρ1, s1, F1, e1⟩
  cases m with
  | zero => cases e1
  | succ m =>
    obtain ⟨kb, s2, e2, e3⟩ := bnd_some (show bnd (gc ρ1) _ s1 = some (o, s') from e1)
    refine ⟨Γ, ρ1, s1, kb, s2, F1, e2, fun H2 n2 => ?_⟩
    cases kb with
    | false =>
      obtain ⟨rfl, rfl⟩ := ret_some (show ret (Out.nx ρ1) s2 = some (o, s') from e3)
      exact k σ1 H2 (F1.nx n2)
    | true =>
      rw [if_pos rfl]
      have e3 : bnd (fb ρ1) (fun o => match o with
        | .nx ρ' => whileN gc fb m ρ'
        | .rt x => ret (.rt x)) s2 = some (o, s') := e3
      obtain ⟨o1, s3, e4, e5⟩ := bnd_some e3
      refine ⟨fun σ' H' => ∃ ρ s, FR X.K Γ ρ σ' H' s ∧ whileN gc fb m ρ s = some (o, s'), fun σ' H' h => ⟨m, Nat.lt_succ_self m, h⟩, ?_⟩
      refine ⟨Γ, ρ1, s2, o1, s3, F1.nx n2, e4, ?_⟩
      cases o1 with
      | nx ρ' => exact fun σ' H' F' => ⟨ρ', s3, F', e5⟩
      | rt x =>
        obtain ⟨rfl, rfl⟩ := ret_some (show ret (Out.rt x) s3 = some (o, s') from e5)
        exact k
end

/-! ### what a loop walks -/
/-- J walks ds; what it leans on is pinned -/
def ItOk (K : PySem.W.Frag) (J : It) (ds : List D) (P : List (V × D)) : Prop := ∃ (G : Hp → Prop) (Y : Nat → Hp → V → Hp → Prop), Walk J ds.length G Y ∧
  (∀ (Γ : Gh) (ρ : Ev) (σ : L2.St) (H : Hp) (s : Ss), FR K Γ ρ σ H s → (∀ p ∈ P, Rl K (MM Γ ρ σ) H p.1 p.2) → G H) ∧
  ∀ (Γ : Gh) (ρ : Ev) (σ : L2.St) (H : Hp) (s : Ss) (i : Nat) (v : V) (H' : Hp), FR K Γ ρ σ H s → (∀ p ∈ P, Rl K (MM Γ ρ σ) H p.1 p.2) → i < ds.length → Y i H v H' → Nx Γ H H' s ∧ ∃ x, ds[i]? = some x ∧ Rl K (MM Γ ρ σ) H' v x
def tI (K : PySem.W.Frag) (f : Ev → M (List D)) : TI := fun σ H R => ∃ (Γ : Gh) (ρ : Ev) (s : Ss) (ds : List D) (s' : Ss), FR K Γ ρ σ H s ∧ f ρ s = some (ds, s') ∧
  ∀ J P H', Nx Γ H H' s' → (∀ p ∈ P, Rl K (MM Γ ρ σ) H' p.1 p.2) → ItOk K J ds P → R J H'
abbrev SI (X : Cx) (tg e : Expr) (f : Ev → M (List D)) : Prop := PI X tg e (tI X.K f)
/-- the items of a list, a tuple; the signs of a text -/
def seqD : D → Option (List D)
  | .list xs => some xs
  | .tuple xs => some xs
  | .str z => some (z.cps.toList.map fun c => .str ⟨#[c]⟩)
  | _ => none
def iSeq (f : Ev → M D) : Ev → M (List D) := fun ρ => bnd (f ρ) fun x => ofO (seqD x)
def rngD (i j : Int) : List D := (List.range (j - i).toNat).map fun (k : Nat) => PyData.int (i + k)
def inR (i : Int) : Bool := decide (i.natAbs < 2 ^ 62)
def rng1 : D → Option (List D)
  | .int j => if inR j = true then some (rngD 0 j) else none
  | _ => none
def rng2 (x y : D) : Option (List D) := match x, y with
  | .int i, .int j => if (inR i && inR j) = true then some (rngD i j) else none
  | _, _ => none
def iRg1 (f : Ev → M D) : Ev → M (List D) := fun ρ => bnd (f ρ) fun x => ofO (rng1 x)
def iRg2 (f g : Ev → M D) : Ev → M (List D) := fun ρ => bnd (f ρ) fun x => bnd (g ρ) fun y => ofO (rng2 x y)
def enumD (xs : List D) : List D := xs.zipIdx.map fun p => .tuple [.int (p.2 : Nat), p.1]
def zipD (xs ys : List D) : List D := (xs.zip ys).map fun p => .tuple [p.1, p.2]
section
variable {X : Cx} {tg : Expr}
theorem pi_imp {e : Expr} {t t' : TI} (h : PI X tg e t) (w : ∀ σ H R, t' σ H R → t σ H R) : PI X tg e t' := ⟨fun pins s σ H R I q => h.run pins s σ H R I (w σ H R q)⟩
/-- over a list, a tuple or a text, as it comes -/
theorem pi_any {l : Expr} {tl : TE} (hl : PE X l tl) : PI X tg l (fun σ H R => tl σ H fun x H1 => (∃ a, x = .ref a ∧ (∃ xs, SqL X.K H1 a xs) ∧ R (Itl X.K a) H1) ∨ (∃ a, x = .ref a ∧ (∃ xs, SqT X.K H1 a xs) ∧ R (Itt X.K a) H1) ∨ ∃ z, x = .str z ∧ R (Its z) H1) := by
  refine ⟨fun pins s σ H R I h => ?_⟩
  refine thn (hl.run pins s σ H _ I h) fun v s1 ⟨x, H1, I1, r1, q1⟩ => ?_
  rcases q1 with ⟨a, e, ⟨xs, hq⟩, q⟩ | ⟨a, e, ⟨xs, hq⟩, q⟩ | ⟨z, e, q⟩
  · subst e
    cases r1
    obtain ⟨its, rv, p, hz⟩ := I1.list hq
    refine wpAny_pyIter_list p.isList ?_
    refine ⟨s1.heap.objs.size, [s1.heap.objs.size], _, _, H1, rfl, I1.kept (t' := s1.toks) fun b o e => Heap.get?_push_of_some _ e, turn_list a _, ⟨_, Heap.get?_push_size _ rfl, rfl, rfl⟩, fun b hb => ?_, q⟩
    have e : b = s1.heap.objs.size := by simpa using hb
    subst e
    exact I1.fpOk (Nat.le_refl _) (I1.hok.fresh (Nat.le_refl _))
  · subst e
    cases r1
    obtain ⟨its, rv, p, hz⟩ := I1.tuple hq
    refine wpAny_pyIter_tuple (show s1.heap.IsTuple a its.toArray from p) ?_
    refine ⟨s1.heap.objs.size, [s1.heap.objs.size], _, _, H1, rfl, I1.kept (t' := s1.toks) fun b o e => Heap.get?_push_of_some _ e, turn_tuple a _, ⟨_, Heap.get?_push_size _ rfl, rfl, rfl⟩, fun b hb => ?_, q⟩
    have e : b = s1.heap.objs.size := by simpa using hb
    subst e
    exact I1.fpOk (Nat.le_refl _) (I1.hok.fresh (Nat.le_refl _))
  · subst e
    obtain ⟨t, rfl⟩ := r1
    cases ha : z.cps.all (· < 128)
    · exact wpAny_pyIter_wide ha (pi_one (tk := s1.toks) I1 _ (turn_str _ z t "str_iterator" (.inr rfl)) ⟨_, Heap.get?_push_size _ rfl, rfl, rfl⟩ q)
    · exact wpAny_pyIter_ascii ha (pi_one (tk := s1.toks) I1 _ (turn_str _ z t "str_ascii_iterator" (.inl rfl)) ⟨_, Heap.get?_push_size _ rfl, rfl, rfl⟩ q)
theorem itok_list {K : PySem.W.Frag} {a : Addr} {vs : List V} {xs : List D} (hl : vs.length = xs.length) (hs : ∀ H, (∃ A, Rl K A H (.ref a) (.list xs)) → ∃ vs, SqL K H a vs) : ItOk K (Itl K a) xs [(.ref a, .list xs)] := by
  refine ⟨fun H => ∃ A vs, H a = some (.lst vs) ∧ RlA K A H vs xs, fun i H v H' => H' = H ∧ ∀ vs, SqL K H a vs → vs[i]? = some v, ?_, ?_, ?_⟩
  · refine ⟨fun i H hi ⟨A, vs, h, r⟩ => ?_, fun H ⟨A, vs, h, r⟩ => ⟨vs, SqL.of h, by rw [r.length]; exact Nat.le_refl _⟩, fun i H v H' hi _ y => y⟩
    have : i < vs.length := by rw [r.length]; exact hi
    exact ⟨vs, vs[i], SqL.of h, by simp [this]⟩
  · intro Γ ρ σ H s F hp
    have r := hp (.ref a, .list xs) (by simp)
    cases r with
    | lst e n r => exact ⟨_, _, e, r⟩
  · intro Γ ρ σ H s i v H' F hp hi ⟨e, y⟩
    subst e
    have r := hp (.ref a, .list xs) (by simp)
    cases r with
    | lst e n r =>
      obtain ⟨x, h1, h2⟩ := r.get (y _ (SqL.of e))
      exact ⟨F.nx0, x, h1, h2⟩
theorem itok_tup {K : PySem.W.Frag} {a : Addr} {xs : List D} : ItOk K (Itt K a) xs [(.ref a, .tuple xs)] := by
  refine ⟨fun H => ∃ A vs, RT K A H a vs ∧ RlA K A H vs xs, fun i H v H' => H' = H ∧ ∀ vs, SqT K H a vs → vs[i]? = some v, ?_, ?_, ?_⟩
  · refine ⟨fun i H hi ⟨A, vs, h, r⟩ => ?_, fun H ⟨A, vs, h, r⟩ => ⟨vs, h.sq, by rw [r.length]; exact Nat.le_refl _⟩, fun i H v H' hi _ y => y⟩
    have : i < vs.length := by rw [r.length]; exact hi
    exact ⟨vs, vs[i], h.sq, by simp [this]⟩
  · intro Γ ρ σ H s F hp
    have r := hp (.ref a, .tuple xs) (by simp)
    cases r with
    | tup e r => exact ⟨_, _, e, r⟩
  · intro Γ ρ σ H s i v H' F hp hi ⟨e, y⟩
    subst e
    have r := hp (.ref a, .tuple xs) (by simp)
    cases r with
    | tup e r =>
      obtain ⟨x, h1, h2⟩ := r.get (y _ e.sq)
      exact ⟨F.nx0, x, h1, h2⟩
theorem si_seq {l : Expr} {f : Ev → M D} (h : SE X l f) : SI X tg l (iSeq f) := pi_imp (pi_any h) fun σ H R ⟨Γ, ρ, s, ds, s', F, e, k⟩ => by
  obtain ⟨x, s1, e1, e⟩ := bnd_some e
  obtain ⟨e2, rfl⟩ := ofO_some e
  refine ⟨Γ, ρ, s, x, s1, F, e1, fun v H1 n1 r1 => ?_⟩
  cases x with
  | list xs =>
    cases e2
    cases r1 with
    | lst e n r => exact .inl ⟨_, rfl, ⟨_, SqL.of e⟩, k _ _ H1 n1 (by simpa using Rl.lst e n r) (itok_list r.length fun H ⟨A, q⟩ => by cases q with | lst e n r => exact ⟨_, SqL.of e⟩)⟩
  | tuple xs =>
    cases e2
    cases r1 with
    | tup e r => exact .inr (.inl ⟨_, rfl, ⟨_, e.sq⟩, k _ _ H1 n1 (by simpa using Rl.tup e r) itok_tup⟩)
  | str z =>
    cases e2
    cases r1
    refine .inr (.inr ⟨z, rfl, k _ [] H1 n1 (by simp) ⟨fun _ => True, (fun i H v H' => H' = H ∧ ∃ c, z.cps[i]? = some c ∧ v = .str ⟨#[c]⟩), by rw [List.length_map, Array.length_toList]; exact walk_str, fun _ _ _ _ _ _ _ => trivial, fun Γ ρ σ H s i v H' F _ hi ⟨e, c, hc, ev⟩ => ?_⟩⟩)
    subst e ev
    exact ⟨F.nx0, .str ⟨#[c]⟩, by simp [hc], .str _⟩
  | _ => cases e2
theorem itok_rng {K : PySem.W.Frag} {i j : Int} : ItOk K (Itr i (j - i).toNat) (rngD i j) [] := by
  refine ⟨fun _ => True, YFn fun k => .int (i + (k : Nat)), by unfold rngD; rw [List.length_map, List.length_range]; exact walk_range, fun _ _ _ _ _ _ _ => trivial, fun Γ ρ σ H s k v H' F _ hi ⟨e, ev⟩ => ?_⟩
  subst e ev
  unfold rngD at hi ⊢
  rw [List.length_map, List.length_range] at hi
  exact ⟨F.nx0, .int (i + k), by simp [List.getElem?_range hi], .int _⟩
theorem si_rg1 {a : Expr} {fa : Ev → M D} {p pos : Pos} (hg : Gl X "range") (hm : X.mg "range" = none) (ha : SE X a fa) (h1 : starEach [a] X.env = (false, eval a X.env) :: starEach [] X.env := by rfl) (hs : starEach [a] X.env = [(false, eval a X.env)] := by rfl) : SI X tg (.Call (.Name "range" p) [a] [] pos) (iRg1 fa) :=
  pi_imp (pi_range1 hg hm (pa_cons ha pa_nil h1) hs) fun σ H R ⟨Γ, ρ, s, ds, s', F, e, k⟩ => by
  obtain ⟨x, s1, e1, e⟩ := bnd_some e
  obtain ⟨e2, rfl⟩ := ofO_some e
  refine ⟨Γ, ρ, s, x, s1, F, e1, fun v H1 n1 r1 => ?_⟩
  cases x with
  | int j =>
    cases r1
    have e2 : (if inR j = true then some (rngD 0 j) else none) = some ds := e2
    split at e2
    · rename_i q
      cases e2
      have q : j.natAbs < 2 ^ 62 := of_decide_eq_true q
      refine ⟨j, rfl, by omega, by omega, ?_⟩
      have := k (Itr 0 (j - 0).toNat) [] H1 n1 (by simp) itok_rng
      simpa using this
    · cases e2
  | _ => cases e2
theorem si_rg2 {a b : Expr} {fa fb : Ev → M D} {p pos : Pos} (hg : Gl X "range") (hm : X.mg "range" = none) (ha : SE X a fa) (hb : SE X b fb) (h1 : starEach [a, b] X.env = (false, eval a X.env) :: starEach [b] X.env := by rfl) (h2 : starEach [b] X.env = (false, eval b X.env) :: starEach [] X.env := by rfl) (hs : starEach [a, b] X.env = [(false, eval a X.env), (false, eval b X.env)] := by rfl) (hs2 : starEach [b] X.env = [(false, eval b X.env)] := by rfl) : SI X tg (.Call (.Name "range" p) [a, b] [] pos) (iRg2 fa fb) :=
  pi_imp (pi_range2 hg hm (pa_cons ha (pa_cons hb pa_nil h2) h1) hs hs2) fun σ H R ⟨Γ, ρ, s, ds, s', F, e, k⟩ => by
  obtain ⟨x, s1, e1, e⟩ := bnd_some e
  obtain ⟨y, s2, e2, e⟩ := bnd_some e
  obtain ⟨e3, rfl⟩ := ofO_some e
  refine ⟨Γ, ρ, s, x, s1, F, e1, fun v H1 n1 r1 => ⟨Γ, ρ, s1, y, s2, F.nx n1, e2, fun w H2 n2 r2 => ?_⟩⟩
  cases x with
  | int i =>
    cases y with
    | int j =>
      cases r1
      cases r2
      have e3 : (if (inR i && inR j) = true then some (rngD i j) else none) = some ds := e3
      split at e3
      · rename_i q
        cases e3
        have q1 : i.natAbs < 2 ^ 62 := of_decide_eq_true (Bool.and_eq_true_iff.mp q).1
        have q2 : j.natAbs < 2 ^ 62 := of_decide_eq_true (Bool.and_eq_true_iff.mp q).2
        exact ⟨i, j, rfl, ⟨by omega, by omega, by omega, by omega⟩, k _ [] H2 (n1.trans n2) (by simp) itok_rng⟩
      · cases e3
    | _ => cases e3
  | _ => cases e3
end

/-! ### for -/
def forL (a : D → Ev → Option Ev) (b : Ev → M Out) : List D → Ev → M Out
  | [], ρ => ret (.nx ρ)
  | x :: xs, ρ => bnd (ofO (a x ρ)) fun ρ1 => bnd (b ρ1) fun o => match o with
    | .nx ρ2 => forL a b xs ρ2
    | .rt y => ret (.rt y)
def sFor (oi : Option Nat) (tgs : List Tg) (fi : Ev → M (List D)) (b : Ev → M Out) : Ev → M Out := fun ρ => bnd (fi ρ) fun ds => forL (asg1 oi tgs) b ds ρ
section
variable {X : Cx} {tg iter : Expr} {body : List Stmt} {pos : Pos} {oi : Option Nat} {tgs : List Tg} {fi : Ev → M (List D)} {fb : Ev → M Out}
theorem ss_for (hp : PassesOwn (model X.prog X.w) X.A X.env X.xe) (hc : X.calm = true) (hi : SI X tg iter fi) (hg : SG X tg oi tgs) (hb : SSs X body fb) (hs : ∀ x, foldedSetIterable iter X.env x = pure x := by intro _; rfl) : SS X (.For tg iter body [] pos) (sFor oi tgs fi fb) := by
  refine ps_imp (ps_for hp hc hi hg hb hs) fun C σ H ⟨Γ, ρ, s, o, s', F, e, k⟩ => ?_
  obtain ⟨ds, s1, e1, e⟩ := bnd_some e
  refine ⟨Γ, ρ, s, ds, s1, F, e1, fun J P H1 n1 hP ⟨G, Y, w, hG, hY⟩ => ?_⟩
  have F1 : FR X.K (Γ.pinned P) ρ σ H1 s1 := (F.nx n1).pinup hP
  refine for_it w (fun i σ H => ∃ ρ s, FR X.K (Γ.pinned P) ρ σ H s ∧ forL (asg1 oi tgs) fb (ds.drop i) ρ s = some (o, s')) ⟨ρ, s1, F1, by simpa using e⟩ ?_ ?_ ?_
  · rintro i σ2 H2 _ ⟨ρ2, s2, F2, _⟩
    exact hG _ ρ2 σ2 H2 s2 F2 fun p hp => F2.pin p (List.mem_append_left _ hp)
  · rintro i v σ2 H2 H3 hlt ⟨ρ2, s2, F2, e2⟩ y
    obtain ⟨n3, x, hx, rx⟩ := hY _ ρ2 σ2 H2 s2 i v H3 F2 (fun p hp => F2.pin p (List.mem_append_left _ hp)) hlt y
    have hd : ds.drop i = x :: ds.drop (i + 1) := by
      have hx' : ds[i] = x := by
        rw [List.getElem?_eq_getElem hlt] at hx
        exact Option.some.inj hx
      rw [List.drop_eq_getElem_cons hlt, hx']
    rw [hd] at e2
    obtain ⟨ρ3, s3, e3, e4⟩ := bnd_some (show bnd (ofO (asg1 oi tgs x ρ2)) _ s2 = some (o, s') from e2)
    obtain ⟨e3', rfl⟩ := ofO_some e3
    refine ⟨_, ρ2, s2, x, ρ3, F2.nx n3, rx, e3', fun σ4 _ F4 => ?_⟩
    obtain ⟨o1, s5, e5, e6⟩ := bnd_some e4
    refine ⟨_, ρ3, s2, o1, s5, F4, e5, ?_⟩
    cases o1 with
    | nx ρ' => exact fun σ' H' F' => ⟨ρ', s5, F', e6⟩
    | rt z =>
      obtain ⟨rfl, rfl⟩ := ret_some (show ret (Out.rt z) s5 = some (o, s') from e6)
      exact k
  · rintro σ2 H2 ⟨ρ2, s2, F2, e2⟩
    rw [List.drop_of_length_le (Nat.le_refl _)] at e2
    obtain ⟨rfl, rfl⟩ := ret_some (show ret (Out.nx ρ2) s2 = some (o, s') from e2)
    exact k σ2 H2 F2.unpin
end
end Sm

set_option Elab.async false
set_option linter.all false
set_option maxRecDepth 100000
set_option maxHeartbeats 4000000
namespace Sm
open PySem PySem.Spec L2

/-! ### comprehensions -/
def wipeE (ρ : Ev) : List Nat → Ev
  | [] => ρ
  | v :: vs => (wipeE ρ vs).set v none
def isOwn (ρ : Ev) (i : Nat) : Bool := match ρ[i]? with
  | some (some (.own _)) => true
  | _ => false
def compL (a : D → Ev → Option Ev) (g : Ev → M Bool) (fe : Ev → M D) : List D → Ev → M (List D)
  | [], _ => ret []
  | x :: xs, ρ => bnd (ofO (a x ρ)) fun ρ1 => bnd (g ρ1) fun k => if k = true then bnd (fe ρ1) fun y => bnd (compL a g fe xs ρ) fun ys => ret (y :: ys) else compL a g fe xs ρ
def eLc (vs : List Nat) (oi : Option Nat) (tgs : List Tg) (fi : Ev → M (List D)) (g : Ev → M Bool) (fe : Ev → M D) : Ev → M D := fun ρ => bnd (fi ρ) fun ds =>
  if (vs.all (fun i => !isOwn ρ i) && decide (ds.length ≤ LIM)) = true then bnd (compL (asg1 oi tgs) g fe ds (wipeE ρ vs)) fun xs => ret (.list xs) else err
def bT : Ev → M Bool := fun _ => ret true
section
variable {α : Type} {l l' : List (Option α)}
theorem wipe_off {σ : L2.St} {j : Nat} : ∀ {vs : List Nat}, j ∉ vs → (wipe σ vs)[j]? = σ[j]?
  | [], _ => rfl
  | v :: vs, h => by
    unfold wipe
    rw [List.getElem?_set_ne fun z => h (by rw [z]; exact List.mem_cons_self)]
    exact wipe_off fun z => h (List.mem_cons_of_mem _ z)
theorem wipeE_off {ρ : Ev} {j : Nat} : ∀ {vs : List Nat}, j ∉ vs → (wipeE ρ vs)[j]? = ρ[j]?
  | [], _ => rfl
  | v :: vs, h => by
    unfold wipeE
    rw [List.getElem?_set_ne fun z => h (by rw [z]; exact List.mem_cons_self)]
    exact wipeE_off fun z => h (List.mem_cons_of_mem _ z)
theorem wipe_in {σ : L2.St} {j : Nat} : ∀ {vs : List Nat}, j ∈ vs → (wipe σ vs)[j]? = if j < σ.length then some none else none
  | v :: vs, h => by
    unfold wipe
    by_cases e : v = j
    · subst e
      by_cases hl : v < σ.length
      · rw [List.getElem?_set_self (by rw [wipe_length]; exact hl), if_pos hl]
      · rw [List.getElem?_eq_none (by rw [List.length_set, wipe_length]; omega), if_neg hl]
    · rw [List.getElem?_set_ne e]
      exact wipe_in ((List.mem_cons.mp h).resolve_left fun z => e z.symm)
theorem wipeE_length (ρ : Ev) : ∀ vs : List Nat, (wipeE ρ vs).length = ρ.length
  | [] => rfl
  | v :: vs => by unfold wipeE; rw [List.length_set, wipeE_length ρ vs]
theorem wipeE_in {ρ : Ev} {j : Nat} {w : Vl} : ∀ {vs : List Nat}, j ∈ vs → (wipeE ρ vs)[j]? ≠ some (some w)
  | v :: vs, h => by
    unfold wipeE
    by_cases e : v = j
    · subst e
      by_cases hl : v < (wipeE ρ vs).length
      · rw [List.getElem?_set_self hl]; simp
      · rw [List.getElem?_eq_none (by rw [List.length_set]; omega)]; simp
    · rw [List.getElem?_set_ne e]
      exact wipeE_in ((List.mem_cons.mp h).resolve_left fun z => e z.symm)
theorem wipe_same {σ σ' : L2.St} {is vs : List Nat} (h : Off is (wipe σ vs) σ') (k : ∀ i ∈ is, i ∈ vs) : wipe σ' vs = wipe σ vs := by
  apply List.ext_getElem?
  intro j
  have hl : σ'.length = σ.length := by rw [h.1, wipe_length]
  by_cases hj : j ∈ vs
  · rw [wipe_in hj, wipe_in hj, hl]
  · rw [wipe_off hj, h.2 j fun z => hj (k j z)]
end
section
variable {K : PySem.W.Frag} {Γ : Gh} {ρ : Ev} {σ : L2.St} {H H' : Hp} {s : Ss} {vs : List Nat} {p : Addr}
theorem noown {x : D} (h : vs.all (fun i => !isOwn ρ i) = true) {i : Nat} (e : ρ[i]? = some (some (.own x))) : i ∉ vs := fun hi => by
  have q := List.all_eq_true.mp h i hi
  unfold isOwn at q
  rw [e] at q
  cases q
theorem MM.wipe (h : vs.all (fun i => !isOwn ρ i) = true) {b : Addr} : MM Γ (wipeE ρ vs) (wipe σ vs) b ↔ MM Γ ρ σ b := by
  constructor
  · rintro (z | ⟨i, x, h1, h2⟩)
    · exact .inl z
    · have hi : i ∉ vs := fun z => wipeE_in z h1
      rw [wipeE_off hi] at h1
      rw [wipe_off hi] at h2
      exact .inr ⟨i, x, h1, h2⟩
  · rintro (z | ⟨i, x, h1, h2⟩)
    · exact .inl z
    · have hi := noown h h1
      exact .inr ⟨i, x, by rw [wipeE_off hi]; exact h1, by rw [wipe_off hi]; exact h2⟩
theorem FR.wipe (F : FR K Γ ρ σ H s) (h : vs.all (fun i => !isOwn ρ i) = true) : FR K Γ (wipeE ρ vs) (L2.wipe σ vs) H s := by
  have up : ∀ b, MM Γ (wipeE ρ vs) (L2.wipe σ vs) b → MM Γ ρ σ b := fun b => (MM.wipe h).mp
  have off : ∀ {i : Nat} {w : Vl}, (wipeE ρ vs)[i]? = some (some w) → i ∉ vs ∧ ρ[i]? = some (some w) := fun {i w} e => by
    have hi : i ∉ vs := fun z => wipeE_in z e
    rw [wipeE_off hi] at e
    exact ⟨hi, e⟩
  refine ⟨F.keep, F.dom, F.msd, F.msc, F.src, by rw [wipe_length, wipeE_length, F.len], fun i x e => ?_, fun i e => ?_, fun i x e => ?_, fun i j x y q h1 h2 h3 h4 => ?_, fun q hq => (F.pin q hq).less up⟩
  · obtain ⟨hi, e⟩ := off e
    obtain ⟨v, e1, r⟩ := F.val i x e
    exact ⟨v, by rw [wipe_off hi]; exact e1, r.less up⟩
  · obtain ⟨hi, e⟩ := off e
    rw [wipe_off hi]
    exact F.srcv i e
  · obtain ⟨hi, e⟩ := off e
    obtain ⟨q, e1, e0, nA, ws, ds, ex, e2, r⟩ := F.own i x e
    exact ⟨q, by rw [wipe_off hi]; exact e1, e0, nA, ws, ds, ex, e2, r.less up⟩
  · obtain ⟨hi, h1⟩ := off h1
    obtain ⟨hj, h2⟩ := off h2
    rw [wipe_off hi] at h3
    rw [wipe_off hj] at h4
    exact F.inj i j x y q h1 h2 h3 h4
/-- what no value holds is changed -/
theorem FR.updA (F : FR K Γ ρ σ H s) (hA : Γ.A p) (h1 : p ≠ Γ.sd) (h2 : p ≠ Γ.sc) (h0 : Γ.H0 p = none) {o : HO} : FR K Γ ρ σ (upd H p o) s := by
  have up : ∀ {v : V} {x : D}, Rl K (MM Γ ρ σ) H v x → Rl K (MM Γ ρ σ) (upd H p o) v x := fun {v x} r => Rl.ext (fun a u e q => ⟨by rw [upd_ne fun z => q (by rw [z]; exact .inl hA)]; exact e, q⟩) x v r
  have upA : ∀ {vs : List V} {ds : List D}, RlA K (MM Γ ρ σ) H vs ds → RlA K (MM Γ ρ σ) (upd H p o) vs ds := fun {vs ds} r => RlA.ext (fun a u e q => ⟨by rw [upd_ne fun z => q (by rw [z]; exact .inl hA)]; exact e, q⟩) ds vs r
  refine ⟨fun b u hb g1 g2 => ?_, fun b hb => ?_, F.msd, F.msc, ?_, F.len, fun i x e => ?_, F.srcv, fun i x e => ?_, F.inj, fun q hq => up (F.pin q hq)⟩
  · rw [upd_ne fun z => by rw [z, h0] at hb; cases hb]
    exact F.keep b u hb g1 g2
  · by_cases z : b = p
    · exact ⟨o, by rw [z, upd_same]⟩
    · rw [upd_ne z]; exact F.dom b hb
  · obtain ⟨s1, s2, s3⟩ := F.src
    exact ⟨by rw [upd_ne (Ne.symm h1)]; exact s1, by rw [upd_ne (Ne.symm h2)]; exact s2, s3⟩
  · obtain ⟨v, e1, r⟩ := F.val i x e
    exact ⟨v, e1, up r⟩
  · obtain ⟨q, e1, e0, nA, ws, ds, ex, e2, r⟩ := F.own i x e
    exact ⟨q, e1, e0, nA, ws, ds, ex, by rw [upd_ne fun z => nA (by rw [z]; exact hA)]; exact e2, upA r⟩
theorem asg1_off {oi : Option Nat} {tgs : List Tg} {x : D} {ρ ρ' : Ev} (e : asg1 oi tgs x ρ = some ρ') : Off (sl1 oi tgs) ρ ρ' := by
  cases oi with
  | some i =>
    cases e
    exact Off.set (.refl _)
  | none =>
    cases x with
    | tuple xs => exact asgT_off tgs _ _ _ e
    | _ => cases e
theorem MM.off {is : List Nat} {ρ' : Ev} {σ' : L2.St} (h1 : Off is (wipeE ρ vs) ρ') (h2 : Off is (L2.wipe σ vs) σ') (k : ∀ i ∈ is, i ∈ vs) {b : Addr} (h : MM Γ (wipeE ρ vs) (L2.wipe σ vs) b) : MM Γ ρ' σ' b := by
  rcases h with z | ⟨i, x, e1, e2⟩
  · exact .inl z
  · have hi : i ∉ vs := fun z => wipeE_in z e1
    exact .inr ⟨i, x, by rw [h1.2 i fun z => hi (k i z)]; exact e1, by rw [h2.2 i fun z => hi (k i z)]; exact e2⟩
/-- the reading of a comprehension -/
theorem lc_imp {oi : Option Nat} {tgs : List Tg} {fi : Ev → M (List D)} {g : Ev → M Bool} {fe : Ev → M D} {Q : VK} (hsl : ∀ i ∈ sl1 oi tgs, i ∈ vs) (h : tF K (eLc vs oi tgs fi g fe) σ H Q) : tLc (tI K fi) (tG K oi tgs) (tB K g) (tE K fe) vs σ H Q := by
  obtain ⟨Γ, ρ, s, z, s', F, e, k⟩ := h
  obtain ⟨ds, s1, e1, e⟩ := bnd_some e
  split at e
  · rename_i hc
    rw [Bool.and_eq_true] at hc
    obtain ⟨hno, hlim⟩ := hc
    have hlim := of_decide_eq_true hlim
    obtain ⟨xs, s2, e2, e⟩ := bnd_some e
    obtain ⟨rfl, rfl⟩ := ret_some e
    refine ⟨Γ, ρ, s, ds, s1, F, e1, fun J P H1 n1 hP ⟨G, Y, w, hG, hY⟩ L hL => ?_⟩
    have F1 := F.nx n1
    have hLs : H L = none := Xs.none F1 n1.xs hL
    have nsd : L ≠ Γ.sd := fun z => by rw [z, F1.src.1] at hL; cases hL
    have nsc : L ≠ Γ.sc := fun z => by rw [z, F1.src.2.1] at hL; cases hL
    have hL0 : Γ.H0 L = none := by
      cases q : Γ.H0 L with
      | none => rfl
      | some o => rw [F1.keep L o q nsd nsc] at hL; cases hL
    have F2 : FR K ((Γ.pinned P).add L) ρ σ (upd H1 L (.lst [])) s1 := (F1.pinup hP).new ((F1.pinup hP).nx0.laid hL) hL upd_same
    have F3 := F2.wipe hno
    refine lc_it w (fun i H3 => ∃ (s3 : Ss) (acc : List V) (accd ys : List D), FR K ((Γ.pinned P).add L) (wipeE ρ vs) (L2.wipe σ vs) H3 s3 ∧ H3 L = some (.lst acc) ∧ RlA K (MM ((Γ.pinned P).add L) (wipeE ρ vs) (L2.wipe σ vs)) H3 acc accd ∧
      accd.length ≤ i ∧ Xs Γ H1 H3 ∧ compL (asg1 oi tgs) g fe (ds.drop i) (wipeE ρ vs) s3 = some (ys, s2) ∧ accd ++ ys = xs) ?_ ?_ ?_ ?_
    · exact ⟨s1, [], [], xs, F3, upd_same, .nil, Nat.le_refl _, Xs.upd hL, by simpa using e2, rfl⟩
    · rintro i H3 _ ⟨s3, acc, accd, ys, F4, _⟩
      exact hG _ _ _ H3 s3 F4 fun p hp => F4.pin p (List.mem_append_left _ hp)
    · rintro i v H3 H4 hlt ⟨s3, acc, accd, ys, F4, hl4, r4, len4, x4, e4, ex⟩ y
      obtain ⟨n5, x, hx, rx⟩ := hY _ _ _ H3 s3 i v H4 F4 (fun p hp => F4.pin p (List.mem_append_left _ hp)) hlt y
      have hd : ds.drop i = x :: ds.drop (i + 1) := by
        have hx' : ds[i] = x := by
          rw [List.getElem?_eq_getElem hlt] at hx
          exact Option.some.inj hx
        rw [List.drop_eq_getElem_cons hlt, hx']
      rw [hd] at e4
      obtain ⟨ρ2, s4, e5, e6⟩ := bnd_some (show bnd (ofO (asg1 oi tgs x (wipeE ρ vs))) _ s3 = some (ys, s2) from e4)
      obtain ⟨e5', rfl⟩ := ofO_some e5
      obtain ⟨kb, s5, e7, e8⟩ := bnd_some e6
      refine ⟨_, _, s3, x, ρ2, F4.nx n5, rx, e5', fun σ2 off F5 => ⟨wipe_same off hsl, ?_⟩⟩
      refine ⟨_, ρ2, s3, kb, s5, F5, e7, fun H5 n6 => ?_⟩
      have F4' := (F4.nx n5).nx ⟨n6.xs, n6.src⟩
      cases kb with
      | true =>
        refine iteT ?_
        obtain ⟨yv, s6, e9, e10⟩ := bnd_some (show bnd (fe ρ2) _ s5 = some (ys, s2) from e8)
        obtain ⟨ys', s7, e11, e12⟩ := bnd_some e10
        obtain ⟨rfl, rfl⟩ := ret_some e12
        refine ⟨_, ρ2, s5, yv, s6, F5.nx n6, e9, fun u H6 n7 r7 => ?_⟩
        have hxs : Xs Γ H3 H6 := (Xs.trans (Γ := Γ) n5.xs n6.xs).trans n7.xs
        have hl6 := hxs L _ hl4 nsd nsc
        have F6 := F4'.nx ⟨n7.xs, n7.src⟩
        refine ⟨acc, hl6, lim_lt (by rw [r4.length]; omega), s6, acc ++ [u], accd ++ [yv], ys', F6.updA (.inr rfl) nsd nsc hL0, upd_same, ?_, by simp; omega, ?_, e11, by simpa using ex⟩
        · have ra : RlA K (MM ((Γ.pinned P).add L) (wipeE ρ vs) (L2.wipe σ vs)) H6 (acc ++ [u]) (accd ++ [yv]) := (F4.rlA hxs r4).append (.cons (r7.less fun b hb => MM.off (asg1_off e5') off hsl hb) .nil)
          exact RlA.ext (fun a o ea q => ⟨by rw [upd_ne fun z => q (by rw [z]; exact .inl (.inr rfl))]; exact ea, q⟩) _ _ ra
        · intro b o hb g1 g2
          rw [upd_ne fun z => by rw [z, hL] at hb; cases hb]
          exact hxs b o (x4 b o hb g1 g2) g1 g2
      | false =>
        refine iteF ?_
        have hxs : Xs Γ H3 H5 := Xs.trans (Γ := Γ) n5.xs n6.xs
        exact ⟨s5, acc, accd, ys, F4', hxs L _ hl4 nsd nsc, F4.rlA hxs r4, by omega, x4.trans hxs, e8, ex⟩
    · rintro H3 ⟨s3, acc, accd, ys, F4, hl4, r4, len4, x4, e4, ex⟩
      rw [List.drop_of_length_le (Nat.le_refl _)] at e4
      obtain ⟨rfl, rfl⟩ := ret_some (show ret [] s3 = some (ys, s2) from e4)
      rw [List.append_nil] at ex
      subst ex
      refine k _ H3 ⟨n1.xs.trans x4, F4.src⟩ ⟨L, acc, accd, rfl, rfl, hLs, hl4, r4.less fun b hb => ?_⟩
      have := (MM.wipe (Γ := Γ.add L) hno).mpr hb
      exact this
  · cases e
end
section
variable {X : Cx} {elt tg iter t : Expr} {scope : Scope} {own : List (Str × Nat)} {pos spos py : Pos} {oi : Option Nat} {tgs : List Tg} {fi : Ev → M (List D)} {g : Ev → M Bool} {fe : Ev → M D} {i : Nat} {y : Str} {ifs : List Expr}
theorem sts0 {X : Cx} : PTs X [] (tB X.K bT) := ⟨fun pins s σ H Q I ⟨Γ, ρ, s0, x, s', F, e, k⟩ => by
  obtain ⟨rfl, rfl⟩ := ret_some e
  exact (pts_nil (X := X)).run pins s σ H Q I (k H F.nx0)⟩
theorem sts1 {X : Cx} (h : SB X t g) : PTs X [t] (tB X.K g) := pts_one h
theorem sf_lc (hc : X.calm = true) (hN : X.N.Nodup) (hi : SI X tg iter fi) (ok : BlkOk X.N X.env.scope scope own)
    (hg : ∀ (s : Shared) (H : Hp) (C : Addr) (cl : List (Str × Addr)) (fp : List Addr), SG (X.blk s H scope (compEnvC scope cl C X.env) fp) tg oi tgs) (ht : ∀ (s : Shared) (H : Hp) (C : Addr) (cl : List (Str × Addr)) (fp : List Addr), PTs (X.blk s H scope (compEnvC scope cl C X.env) fp) ifs (tB X.K g))
    (he : ∀ (s : Shared) (H : Hp) (C : Addr) (cl : List (Str × Addr)) (fp : List Addr), SE (X.blk s H scope (compEnvC scope cl C X.env) fp) elt fe) (hsl : ∀ i ∈ sl1 oi tgs, i ∈ own.map (·.2) := by decide) (hs : ∀ x, foldedSetIterable iter X.env x = pure x := by intro _; rfl) :
    SF X (.ListComp elt [⟨tg, iter, ifs, 0⟩] scope pos) (eLc (own.map (·.2)) oi tgs fi g fe) := pe_imp (pe_lc hc hN hi ok hg ht he hs) fun _ _ _ h => lc_imp hsl h
theorem ss_lc (i : Nat) (hc : X.calm = true) (hN : X.N.Nodup) (hi : SI X tg iter fi) (ok : BlkOk X.N X.env.scope scope own)
    (hg : ∀ (s : Shared) (H : Hp) (C : Addr) (cl : List (Str × Addr)) (fp : List Addr), SG (X.blk s H scope (compEnvC scope cl C X.env) fp) tg oi tgs) (ht : ∀ (s : Shared) (H : Hp) (C : Addr) (cl : List (Str × Addr)) (fp : List Addr), PTs (X.blk s H scope (compEnvC scope cl C X.env) fp) ifs (tB X.K g))
    (he : ∀ (s : Shared) (H : Hp) (C : Addr) (cl : List (Str × Addr)) (fp : List Addr), SE (X.blk s H scope (compEnvC scope cl C X.env) fp) elt fe) (hsw : swapsWith (.ListComp elt [⟨tg, iter, ifs, 0⟩] scope pos) (some (.Name y py)) spos.line X.env = pure true) (hy : X.N[i]? = some y := by rfl) (hyl : X.env.scope.names.lookup y = some .local := by rfl) (hsl : ∀ i ∈ sl1 oi tgs, i ∈ own.map (·.2) := by decide) (hs : ∀ x, foldedSetIterable iter X.env x = pure x := by intro _; rfl) :
    SS X (.Assign [.Name y py] (.ListComp elt [⟨tg, iter, ifs, 0⟩] scope pos) spos) (sSet i (eLc (own.map (·.2)) oi tgs fi g fe)) := ps_imp (ps_setLc hc hN hy hyl hsw hi ok hg ht he hs) fun C σ H ⟨Γ, ρ, s, o, s', F, e, k⟩ => by
  obtain ⟨x, s1, e1, e⟩ := bnd_some e
  obtain ⟨rfl, rfl⟩ := ret_some e
  exact lc_imp hsl ⟨Γ, ρ, s, x, s1, F, e1, fun v H' n r => k _ H' ((F.nx n).setd (r.rl F))⟩
theorem ss_lcOwn (i : Nat) (hc : X.calm = true) (hN : X.N.Nodup) (hi : SI X tg iter fi) (ok : BlkOk X.N X.env.scope scope own)
    (hg : ∀ (s : Shared) (H : Hp) (C : Addr) (cl : List (Str × Addr)) (fp : List Addr), SG (X.blk s H scope (compEnvC scope cl C X.env) fp) tg oi tgs) (ht : ∀ (s : Shared) (H : Hp) (C : Addr) (cl : List (Str × Addr)) (fp : List Addr), PTs (X.blk s H scope (compEnvC scope cl C X.env) fp) ifs (tB X.K g))
    (he : ∀ (s : Shared) (H : Hp) (C : Addr) (cl : List (Str × Addr)) (fp : List Addr), SE (X.blk s H scope (compEnvC scope cl C X.env) fp) elt fe) (hsw : swapsWith (.ListComp elt [⟨tg, iter, ifs, 0⟩] scope pos) (some (.Name y py)) spos.line X.env = pure true) (hy : X.N[i]? = some y := by rfl) (hyl : X.env.scope.names.lookup y = some .local := by rfl) (hsl : ∀ i ∈ sl1 oi tgs, i ∈ own.map (·.2) := by decide) (hs : ∀ x, foldedSetIterable iter X.env x = pure x := by intro _; rfl) :
    SS X (.Assign [.Name y py] (.ListComp elt [⟨tg, iter, ifs, 0⟩] scope pos) spos) (sOwn i (eLc (own.map (·.2)) oi tgs fi g fe)) := ps_imp (ps_setLc hc hN hy hyl hsw hi ok hg ht he hs) fun C σ H ⟨Γ, ρ, s, o, s', F, e, k⟩ => by
  obtain ⟨x, s1, e1, e⟩ := bnd_some e
  obtain ⟨rfl, rfl⟩ := ret_some e
  exact lc_imp hsl ⟨Γ, ρ, s, x, s1, F, e1, fun v H' n r => k _ H' (own_end F n r)⟩
end
end Sm

set_option Elab.async false
set_option linter.all false
set_option maxRecDepth 100000
set_option maxHeartbeats 4000000
namespace Sm
open PySem PySem.Spec L2

/-! ### calls of built-ins by one or two values -/
abbrev A1 (X : Cx) (e : Expr) : Prop := starEach [e] X.env = (false, eval e X.env) :: starEach [] X.env
abbrev A2 (X : Cx) (e e2 : Expr) : Prop := starEach [e, e2] X.env = (false, eval e X.env) :: starEach [e2] X.env
section
variable {X : Cx} {x : Str} {p pos : Pos} {e e2 : Expr} {fe fe2 : Ev → M D} {id T : String} {r : List V → Hp → VK → Prop} {g : D → Option D} {g2 : D → D → Option D}
theorem se_b1 (hc : CallR X (.builtin id) r) (hv : Cv1 X.K (fun v H Q => r [v] H Q) g) (hg : Gl X x) (hm : X.mg x = none) (hb : bootBuiltins x = some (.builtin id)) (ha : ST X e fe) (hs : A1 X e) (hpl : (backTo pos (starEach [] X.env)).any (·.1) = false) (hn : x ≠ "__name__") (hdb : (x == ("__debug__" : Str)) = false) : SE X (.Call (.Name x p) [e] [] pos) (eUn g fe) :=
  pe_imp (pe_callB hc hg hm hb (pa_cons ha pa_nil hs) hn hdb hs hpl) fun _ _ _ q => un_imp hv q
theorem se_t1 (hc : CallR X (.type T) r) (hv : Cv1 X.K (fun v H Q => r [v] H Q) g) (hg : Gl X x) (hm : X.mg x = none) (hb : bootBuiltins x = some (.type T)) (ha : ST X e fe) (hs : A1 X e) (hpl : (backTo pos (starEach [] X.env)).any (·.1) = false) (hn : x ≠ "__name__") (hdb : (x == ("__debug__" : Str)) = false) : SE X (.Call (.Name x p) [e] [] pos) (eUn g fe) :=
  pe_imp (pe_callTy hc hg hm hb (pa_cons ha pa_nil hs) hn hdb hs hpl) fun _ _ _ q => un_imp hv q
theorem sf_t1 (hc : CallR X (.type T) r) (hv : CvF1 X.K (fun v H Q => r [v] H Q) g) (hg : Gl X x) (hm : X.mg x = none) (hb : bootBuiltins x = some (.type T)) (ha : ST X e fe) (hs : A1 X e) (hpl : (backTo pos (starEach [] X.env)).any (·.1) = false) (hn : x ≠ "__name__") (hdb : (x == ("__debug__" : Str)) = false) : SF X (.Call (.Name x p) [e] [] pos) (eUn g fe) :=
  pe_imp (pe_callTy hc hg hm hb (pa_cons ha pa_nil hs) hn hdb hs hpl) fun _ _ _ q => unF_imp hv q
theorem sf_b1 (hc : CallR X (.builtin id) r) (hv : CvF1 X.K (fun v H Q => r [v] H Q) g) (hg : Gl X x) (hm : X.mg x = none) (hb : bootBuiltins x = some (.builtin id)) (ha : ST X e fe) (hs : A1 X e) (hpl : (backTo pos (starEach [] X.env)).any (·.1) = false) (hn : x ≠ "__name__") (hdb : (x == ("__debug__" : Str)) = false) : SF X (.Call (.Name x p) [e] [] pos) (eUn g fe) :=
  pe_imp (pe_callB hc hg hm hb (pa_cons ha pa_nil hs) hn hdb hs hpl) fun _ _ _ q => unF_imp hv q
theorem se_b2 (hc : CallR X (.builtin id) r) (hv : Cv2 X.K (fun v w H Q => r [v, w] H Q) g2) (hg : Gl X x) (hm : X.mg x = none) (hb : bootBuiltins x = some (.builtin id)) (ha : ST X e fe) (ha2 : ST X e2 fe2) (hs : A2 X e e2) (hs2 : A1 X e2) (hpl : (backTo pos (starEach [e2] X.env)).any (·.1) = false) (hn : x ≠ "__name__") (hdb : (x == ("__debug__" : Str)) = false) : SE X (.Call (.Name x p) [e, e2] [] pos) (eBin g2 fe fe2) :=
  pe_imp (pe_callB hc hg hm hb (pa_cons ha (pa_cons ha2 pa_nil hs2) hs) hn hdb hs hpl) fun _ _ _ q => bin_imp hv q
theorem se_f2 (hc : CallR X (.builtin id) r) (hv : Cv2 X.K (fun v w H Q => r [v, w] H Q) g2) (hg : Gl X x) (hm : X.mg x = some (.builtin id)) (ha : ST X e fe) (ha2 : ST X e2 fe2) (hs : A2 X e e2) (hs2 : A1 X e2) (hpl : (backTo pos (starEach [e2] X.env)).any (·.1) = false) (hdb : (x == ("__debug__" : Str)) = false) : SE X (.Call (.Name x p) [e, e2] [] pos) (eBin g2 fe fe2) :=
  pe_imp (pe_callBfun hc hg hm (pa_cons ha (pa_cons ha2 pa_nil hs2) hs) hdb hs hpl) fun _ _ _ q => bin_imp hv q
end

/-! ### what they give -/
def lenD : D → Option D
  | .list xs => some (.int xs.length)
  | .tuple xs => some (.int xs.length)
  | .str z => if z.length ≤ LIM then some (.int z.length) else none
  | _ => none
def absI : D → Option D
  | .int i => some (.int (if i < 0 then -i else i))
  | _ => none
def intD : D → Option D
  | .int i => some (.int i)
  | .bool b => some (.int (if b then 1 else 0))
  | _ => none
def max2I (x y : D) : Option D := match x, y with
  | .int i, .int j => some (.int (if j > i then j else i))
  | _, _ => none
def min2I (x y : D) : Option D := match x, y with
  | .int i, .int j => some (.int (if j < i then j else i))
  | _, _ => none
def gcdI (x y : D) : Option D := match x, y with
  | .int i, .int j => some (.int (Int.gcd i j))
  | _, _ => none
def intsD : List D → Option (List Int)
  | [] => some []
  | .int i :: xs => (intsD xs).map (i :: ·)
  | _ :: _ => none
def boolsD : List D → Option (List Bool)
  | [] => some []
  | .bool i :: xs => (boolsD xs).map (i :: ·)
  | _ :: _ => none
theorem intsD_some : ∀ {xs : List D} {ns : List Int}, intsD xs = some ns → xs = ns.map PyData.int
  | [], _, e => by cases e; rfl
  | x :: xs, ns, e => by
    cases x with
    | int i =>
      obtain ⟨ms, e', rfl⟩ := Option.map_eq_some_iff.mp (show (intsD xs).map (i :: ·) = some ns from e)
      rw [intsD_some e']; rfl
    | _ => cases e
theorem boolsD_some : ∀ {xs : List D} {ns : List Bool}, boolsD xs = some ns → xs = ns.map PyData.bool
  | [], _, e => by cases e; rfl
  | x :: xs, ns, e => by
    cases x with
    | bool i =>
      obtain ⟨ms, e', rfl⟩ := Option.map_eq_some_iff.mp (show (boolsD xs).map (i :: ·) = some ns from e)
      rw [boolsD_some e']; rfl
    | _ => cases e
def itemsI (x : D) : Option (List Int) := (itemsD x).bind intsD
def sumI (x : D) : Option D := (itemsI x).map fun ns => .int ns.sum
def maxI (x : D) : Option D := (itemsI x).bind fun ns => ns.max?.map PyData.int
def minI (x : D) : Option D := (itemsI x).bind fun ns => ns.min?.map PyData.int
def itemsB : D → Option (List Bool)
  | .list xs => boolsD xs
  | _ => none
def allB (x : D) : Option D := (itemsB x).map fun bs => .bool (bs.all id)
def anyB (x : D) : Option D := (itemsB x).map fun bs => .bool (bs.any id)
def tupD (x : D) : Option D := (itemsD x).map PyData.tuple
def lstD (x : D) : Option D := (itemsD x).map PyData.list
section
variable {K : PySem.W.Frag}
theorem cv_len : Cv1 K (fun v H Q => (fun xs H Q => ∃ x n, xs = [x] ∧ LenV K x H n ∧ Q (.int n) H) [v] H Q) lenD := by
  intro Γ ρ σ H s v x z Q F rx e k
  unfold lenD at e
  split at e
  · cases e
    obtain ⟨q, vs, rfl, h, r⟩ := rx.list F
    exact ⟨_, vs.length, rfl, .inl ⟨vs, SqL.of h, rfl⟩, by rw [r.length]; exact k _ H F.nx0 (.int _)⟩
  · cases e
    obtain ⟨q, vs, rfl, h, r⟩ := rx.tup F
    exact ⟨_, vs.length, rfl, .inr ⟨vs, h.sq, rfl⟩, by rw [r.length]; exact k _ H F.nx0 (.int _)⟩
  · split at e
    · rename_i hl
      cases e
      cases rx.str F
      exact ⟨_, _, rfl, ⟨lim_ok hl, rfl⟩, k _ H F.nx0 (.int _)⟩
    · cases e
  · cases e
theorem cv_abs : Cv1 K (fun v H Q => (fun (xs : List V) H (Q : VK) => ∃ i, xs = [.int i] ∧ Q (.int (if i < 0 then -i else i)) H) [v] H Q) absI := by
  intro Γ ρ σ H s v x z Q F rx e k
  unfold absI at e
  split at e
  · cases e
    cases rx.int F
    exact ⟨_, rfl, k _ H F.nx0 (.int _)⟩
  · cases e
theorem cv_int : Cv1 K (fun v H Q => (fun (xs : List V) H (Q : VK) => (∃ i, xs = [.int i] ∧ Q (.int i) H) ∨ ∃ k, xs = [.bl k] ∧ Q (.int (if k then 1 else 0)) H) [v] H Q) intD := by
  intro Γ ρ σ H s v x z Q F rx e k
  unfold intD at e
  split at e
  · cases e
    cases rx.int F
    exact .inl ⟨_, rfl, k _ H F.nx0 (.int _)⟩
  · cases e
    cases rx.bool F
    exact .inr ⟨_, rfl, k _ H F.nx0 (.int _)⟩
  · cases e
theorem cv_max2 : Cv2 K (fun v w H Q => (fun (xs : List V) H (Q : VK) => ∃ i j, xs = [.int i, .int j] ∧ Q (.int (if j > i then j else i)) H) [v, w] H Q) max2I := by
  intro Γ ρ σ H s v w x y z Q F rx ry e k
  unfold max2I at e
  split at e
  · cases e
    cases rx.int F
    cases ry.int F
    exact ⟨_, _, rfl, k _ H F.nx0 (.int _)⟩
  · cases e
theorem cv_min2 : Cv2 K (fun v w H Q => (fun (xs : List V) H (Q : VK) => ∃ i j, xs = [.int i, .int j] ∧ Q (.int (if j < i then j else i)) H) [v, w] H Q) min2I := by
  intro Γ ρ σ H s v w x y z Q F rx ry e k
  unfold min2I at e
  split at e
  · cases e
    cases rx.int F
    cases ry.int F
    exact ⟨_, _, rfl, k _ H F.nx0 (.int _)⟩
  · cases e
theorem cv_gcd : Cv2 K (fun v w H Q => rGcd [v, w] H Q) gcdI := by
  intro Γ ρ σ H s v w x y z Q F rx ry e k
  unfold gcdI at e
  split at e
  · cases e
    cases rx.int F
    cases ry.int F
    exact ⟨_, _, rfl, k _ H F.nx0 (.int _)⟩
  · cases e
theorem RlT.items {Γ : Gh} {ρ : Ev} {σ : L2.St} {H : Hp} {s : Ss} {v : V} {x : D} {xs : List D} (F : FR K Γ ρ σ H s) (h : RlT K Γ ρ σ H v x) (e : itemsD x = some xs) : ∃ a vs, v = .ref a ∧ (SqL K H a vs ∨ SqT K H a vs) ∧ RlA K (MM Γ ρ σ) H vs xs := by
  unfold itemsD at e
  split at e
  · cases e
    obtain ⟨q, vs, ev, h, r⟩ := h.list F
    exact ⟨q, vs, ev, .inl (SqL.of h), r⟩
  · cases e
    obtain ⟨q, vs, ev, h, r⟩ := h.tup F
    exact ⟨q, vs, ev, .inr h.sq, r⟩
  · cases e
theorem RlT.ints {Γ : Gh} {ρ : Ev} {σ : L2.St} {H : Hp} {s : Ss} {v : V} {x : D} {ns : List Int} (F : FR K Γ ρ σ H s) (h : RlT K Γ ρ σ H v x) (e : itemsI x = some ns) : ∃ a, v = .ref a ∧ (SqL K H a (ns.map V.int) ∨ SqT K H a (ns.map V.int)) := by
  obtain ⟨xs, e1, e2⟩ := Option.bind_eq_some_iff.mp e
  cases intsD_some e2
  obtain ⟨a, vs, ev, hs, r⟩ := h.items F e1
  cases r.ints_inv
  exact ⟨a, ev, hs⟩
end

/-! ### sum, max, min of a tuple -/
section
open PyProof.Rows
variable {prog : Program} {w : World} {A : Around} {E : Value → Shared → Prop} {s : Shared} {l : Addr} {its : List Value} {ns : List Int} {Q : Value → Shared → Prop} {xs : Array (Int × Tok)}
theorem iter_intTup {Q : Value → Shared → Prop} (hl : s.heap.IsTuple l (intItems xs))
    (h : ∀ s₂ : Shared, s₂ = { s with heap := s.heap.push { cls := .type "tuple_iterator", data := .fields #[.ref l, .int 0 0] } } →
      (s₂.heap.IsTupleIter s.heap.objs.size l 0 ∧ s₂.heap.IsTuple l (intItems xs)) → (∀ b ∈ [s.heap.objs.size, l], b < s₂.heap.objs.size) → l ≠ s.heap.objs.size → Q (.ref s.heap.objs.size) s₂) :
    wpAny (model prog w) A (pyIter (.ref l)) Q E s := by
  have hlt : l < s.heap.objs.size := by obtain ⟨_, e, _⟩ := hl; exact Heap.lt_size e
  refine wpAny_pyIter_tuple hl (h _ rfl ⟨⟨_, Heap.get?_push_size _ rfl, rfl, rfl⟩, hl.push _⟩ (fun b hb => ?_) (Nat.ne_of_lt hlt))
  show b < (s.heap.push _).objs.size
  rw [Heap.size_push]
  rcases List.mem_cons.mp hb with rfl | hb
  · exact Nat.lt_succ_self _
  · rcases List.mem_cons.mp hb with rfl | hb
    · exact Nat.lt_succ_of_lt hlt
    · cases hb
theorem old_keptT {h' : Heap} (hk : ∀ b o, b ∉ [s.heap.objs.size] → (s.heap.push { cls := .type "tuple_iterator", data := .fields #[.ref l, .int 0 0] }).get? b = some o → h'.get? b = some o) :
    ∀ b o, s.heap.get? b = some o → h'.get? b = some o := fun b o e => by
  refine hk b o (fun hm => ?_) (Heap.get?_push_of_some _ e)
  rcases List.mem_cons.mp hm with e1 | hm
  · exact absurd (e1 ▸ Heap.lt_size e) (Nat.lt_irrefl _)
  · cases hm
theorem sum_rawT (hh : A.handled = none) (hl : s.heap.IsTuple l its.toArray) (hi : IntsAre its ns)
    (h : ∀ h' tk t', (∀ b o, s.heap.get? b = some o → h'.get? b = some o) → Q (.int ns.sum t') { s with heap := h', toks := tk }) : wpAny (model prog w) A (call (.builtin "sum") [.ref l]) Q E s := by
  obtain ⟨xs, e⟩ := hi.allInts.items
  have hn : numsOf (intItems xs).toList = ns := by rw [← e]; exact hi.numsOf
  rw [nums_intItems] at hn
  rw [e] at hl
  refine PySem.call_sum_walkG (iter_intTup hl fun s₂ e2 st hfp hlI => ?_)
  subst e2
  refine ⟨_, _, _, _, _, _, numAt xs, rfl, Walks.tuple (A := A.in1) hh _ l hlI (intItems xs), st, hfp, (fun _ _ => intItems_at), fun h' tk t' hk => ?_⟩
  have := h h' tk t' (old_keptT hk)
  rw [← hn] at this
  have e3 : preSum (numAt xs) (intItems xs).size = (xs.toList.map (·.1)).sum := by
    rw [preSum_eq, List.take_of_length_le (by simp [intItems])]
  rw [e3]
  exact this
theorem max_rawT (hh : A.handled = none) (hl : s.heap.IsTuple l its.toArray) (hi : IntsAre its ns) (hne : 0 < ns.length)
    (h : ∀ h' tk M t', (∀ b o, s.heap.get? b = some o → h'.get? b = some o) → M ∈ ns → (∀ a, a ∈ ns → a ≤ M) → Q (.int M t') { s with heap := h', toks := tk }) : wpAny (model prog w) A (call (.builtin "max") [.ref l]) Q E s := by
  obtain ⟨xs, e⟩ := hi.allInts.items
  have hn : numsOf (intItems xs).toList = ns := by rw [← e]; exact hi.numsOf
  rw [nums_intItems] at hn
  subst hn
  rw [e] at hl
  have hsz : 0 < xs.size := by simpa using hne
  refine call_max_walk (iter_intTup hl fun s₂ e2 st hfp hlI => ?_)
  subst e2
  refine ⟨_, _, _, _, _, _, _, rfl, Walks.tuple (A := A.in1) hh _ l hlI (intItems xs), st, hfp, by simpa [intItems] using hsz, CmpOf.ints_gt (numAt xs) (fun _ _ => intItems_at), fun v h' tk hv hk => ?_⟩
  obtain ⟨t, rfl⟩ := intItems_at hv
  obtain ⟨h1, h2⟩ := argBest_gt (numAt xs) ((intItems xs).size - 1)
  have hsi : (intItems xs).size = xs.size := by simp [intItems]
  refine h h' tk _ t (old_keptT hk) ?_ fun a ha => ?_
  · rw [numAt_eq]; exact PySem.getD_mem (by rw [List.length_map, Array.length_toList]; omega)
  · obtain ⟨j, hj, rfl⟩ := mem_getD ha
    rw [List.length_map, Array.length_toList] at hj
    rw [← numAt_eq]; exact h2 j (by omega)
theorem min_rawT (hh : A.handled = none) (hl : s.heap.IsTuple l its.toArray) (hi : IntsAre its ns) (hne : 0 < ns.length)
    (h : ∀ h' tk M t', (∀ b o, s.heap.get? b = some o → h'.get? b = some o) → M ∈ ns → (∀ a, a ∈ ns → M ≤ a) → Q (.int M t') { s with heap := h', toks := tk }) : wpAny (model prog w) A (call (.builtin "min") [.ref l]) Q E s := by
  obtain ⟨xs, e⟩ := hi.allInts.items
  have hn : numsOf (intItems xs).toList = ns := by rw [← e]; exact hi.numsOf
  rw [nums_intItems] at hn
  subst hn
  rw [e] at hl
  have hsz : 0 < xs.size := by simpa using hne
  refine call_min_walk (iter_intTup hl fun s₂ e2 st hfp hlI => ?_)
  subst e2
  refine ⟨_, _, _, _, _, _, _, rfl, Walks.tuple (A := A.in1) hh _ l hlI (intItems xs), st, hfp, by simpa [intItems] using hsz, CmpOf.ints_lt (numAt xs) (fun _ _ => intItems_at), fun v h' tk hv hk => ?_⟩
  obtain ⟨t, rfl⟩ := intItems_at hv
  obtain ⟨h1, h2⟩ := argBest_lt (numAt xs) ((intItems xs).size - 1)
  have hsi : (intItems xs).size = xs.size := by simp [intItems]
  refine h h' tk _ t (old_keptT hk) ?_ fun a ha => ?_
  · rw [numAt_eq]; exact PySem.getD_mem (by rw [List.length_map, Array.length_toList]; omega)
  · obtain ⟨j, hj, rfl⟩ := mem_getD ha
    rw [List.length_map, Array.length_toList] at hj
    rw [← numAt_eq]; exact h2 j (by omega)
end
end Sm

set_option Elab.async false
set_option linter.all false
set_option maxRecDepth 100000
set_option maxHeartbeats 4000000
namespace Sm
open PySem PySem.Spec L2

/-! ### a def by its body's function -/
/-- n slots -/
def fnV (n : Nat) (b : Ev → M Out) : List Vl → M D := fun as => bnd (b (as.map some ++ List.replicate (n - as.length) none)) fun o => match o with
  | .rt x => ret x
  | .nx _ => ret .none
theorem map_some_get {α : Type} {xs : List α} {n i : Nat} {y : α} (h : (xs.map some ++ List.replicate n none)[i]? = some (some y)) : xs[i]? = some y := by
  by_cases hi : i < xs.length
  · rw [List.getElem?_append_left (by simpa using hi), List.getElem?_map] at h
    cases q : xs[i]? with
    | none => rw [q] at h; cases h
    | some z => rw [q] at h; cases h; rfl
  · rw [List.getElem?_append_right (by simpa using Nat.le_of_not_lt hi), List.getElem?_replicate] at h
    split at h
    · cases h
    · cases h
theorem get_map_some {α : Type} {xs : List α} {n i : Nat} {y : α} (h : xs[i]? = some y) : (xs.map some ++ List.replicate n none)[i]? = some (some y) := by
  have hi : i < xs.length := (List.getElem?_eq_some_iff.mp h).1
  rw [List.getElem?_append_left (by simpa using hi), List.getElem?_map, h]
  rfl
theorem LA.at {K : PySem.W.Frag} {sd : Addr} {A : Addr → Prop} {H : Hp} {vs : List V} {as : List Vl} (h : LA K sd A H [] vs as) : ∀ {i : Nat} {a : Vl}, as[i]? = some a → ∃ v, vs[i]? = some v ∧ ((∃ x, a = .d x ∧ Rl K A H v x) ∨ (a = .src ∧ v = .ref sd)) := by
  generalize hp : ([] : List Addr) = ps at h
  induction h with
  | nil => intro i a e; simp at e
  | d r _ ih =>
    intro i a e
    cases i with
    | zero => simp at e; subst e; exact ⟨_, rfl, .inl ⟨_, rfl, r⟩⟩
    | succ i => simpa using ih hp (i := i) (by simpa using e)
  | own e r _ ih => cases hp
  | src _ ih =>
    intro i a e
    cases i with
    | zero => simp at e; subst e; exact ⟨_, rfl, .inr ⟨rfl, rfl⟩⟩
    | succ i => simpa using ih hp (i := i) (by simpa using e)
section
variable {P : Program} {w : World} {K : PySem.W.Frag} {mg : Str → Option Value} {base : Heap} {k : Nat} {f : Addr} {fd : FuncData}
theorem fr_start {K : PySem.W.Frag} {sd sc : Addr} {A : Addr → Prop} {H : Hp} {s : Ss} {vs : List V} {as : List Vl} {N : List Str} (hd : ∀ b, A b → ∃ o, H b = some o) (h1 : A sd) (h2 : A sc) (hs : SrcAt sd sc H s) (la : LA K sd A H [] vs as) :
    FR K ⟨sd, sc, A, H, []⟩ (as.map some ++ List.replicate (N.length - as.length) none) (L2.start N vs) H s := by
  have hl := la.length
  have now : ∀ (i : Nat) (x : D), (as.map some ++ List.replicate (N.length - as.length) none)[i]? ≠ some (some (.own x)) := fun i x e => by
    obtain ⟨v, _, h⟩ := la.at (map_some_get e)
    rcases h with ⟨_, e, _⟩ | ⟨e, _⟩ <;> cases e
  have up : ∀ b, MM ⟨sd, sc, A, H, []⟩ (as.map some ++ List.replicate (N.length - as.length) none) (L2.start N vs) b → A b := fun b h => by
    rcases h with h | ⟨i, x, e, _⟩
    · exact h
    · exact (now i x e).elim
  refine ⟨fun b o h _ _ => h, hd, h1, h2, hs, by simp [L2.start, hl], fun i x e => ?_, fun i e => ?_, fun i x e => (now i x e).elim, fun i j x y p e => (now i x e).elim, fun p hp => nomatch hp⟩
  · obtain ⟨v, ev, h⟩ := la.at (map_some_get e)
    rcases h with ⟨y, ey, r⟩ | ⟨ey, _⟩
    · cases ey
      exact ⟨v, get_map_some ev, r.less up⟩
    · cases ey
  · obtain ⟨v, ev, h⟩ := la.at (map_some_get e)
    rcases h with ⟨y, ey, r⟩ | ⟨_, rfl⟩
    · cases ey
    · exact get_map_some ev
theorem fn_sem {x qual : Str} {params : Arguments} {body : List Stmt} {scope : Scope} {kws : List (Str × V)} {N ps : List Str} (F : FunD K x qual params body scope [] kws f fd) (S : FnScope N ps scope) {b : Ev → M Out}
    (hb : ∀ (cdv : Value) (A : Around) (outer : List Env) (s : Shared) (H : Hp) (E : XK), A.guards = some [] → Room k (A.deeper (PyProof.Rows.envOfC qual scope s.heap.objs.size f cdv)) → SSs (cxOf CX0 P w K mg base N qual scope f cdv A outer s H E).nox body b) :
    FnG P w K mg base (k + 1) f fd ps (spD K ps.length (fnV N.length b)) := by
  refine fn_ofG F S (fun vs H Q E ⟨_, _, _, _, _, _, _, hl, _⟩ => hl) fun cdv A outer s H vs Q E hg hr ⟨sd, sc, A', as, s0, s', z, hl, hd, h1, h2, hs, la, e, kk⟩ => ?_
  refine ⟨_, hb cdv A outer s H E hg hr, ?_⟩
  obtain ⟨o, s1, e1, e2⟩ := bnd_some e
  refine ⟨⟨sd, sc, A', H, []⟩, _, s0, o, s1, fr_start hd h1 h2 hs la, e1, ?_⟩
  cases o with
  | nx ρ' =>
    obtain ⟨rfl, rfl⟩ := ret_some (show ret PyData.none s1 = some (z, s') from e2)
    exact fun σ' H' F' => kk .non H' F'.keep F'.src .non
  | rt y =>
    obtain ⟨rfl, rfl⟩ := ret_some (show ret y s1 = some (z, s') from e2)
    exact fun v H' hx hs' r => kk v H' hx hs' r
end

/-! ### the law itself: behind the source -/
/-- what a law's rest gives, whatever was drawn: True -/
def LawOk (n : Nat) (b : Ev → M Out) : Prop := ∀ s : Ss, ∃ s', b ([none, some .src] ++ List.replicate (n - 2) none) s = some (.rt (.bool true), s')
def spOpen (K : PySem.W.Frag) : Sp := fun vs H Q _ => ∃ (a : Addr) (ns : List Int), vs = [.ref a] ∧ SqL K H a (ns.map V.int) ∧ ns.length ≤ 63 ∧
  ∀ H' p c s, Same H H' → H p = none → H c = none → SrcAt p c H' s → Q (.ref p) H'
def spLaw (K : PySem.W.Frag) : Sp := fun vs H Q _ => ∃ (a : Addr) (ns : List Int), vs = [.ref a] ∧ SqL K H a (ns.map V.int) ∧ ns.length ≤ 63 ∧ ∀ H', Q (.bl true) H'
section
variable {P : Program} {w : World} {K : PySem.W.Frag} {mg : Str → Option Value} {base : Heap} {k j : Nat} {f fo : Addr} {fd fdo : FuncData}
theorem law_sem {qual x y z o : Str} {params : Arguments} {rest : List Stmt} {scope : Scope} {kws : List (Str × V)} {N : List Str} {p0 p1 p2 p3 p4 : Pos} (FL : FunD K x qual params (.Assign [.Name y p0] (.Call (.Name o p1) [.Name z p2] [] p3) p4 :: rest) scope [] kws f fd) (hj : j ≤ k)
    (FO : FnG P w K mg base j fo fdo ["script"] (spOpen K)) (S : FnScope (z :: y :: N) [z] scope) {b : Ev → M Out} (ok : LawOk (N.length + 2) b)
    (h0 : ∀ (cdv : Value) (A : Around) (outer : List Env) (s : Shared) (H : Hp) (E : XK), A.guards = some [] → Room k (A.deeper (PyProof.Rows.envOfC qual scope s.heap.objs.size f cdv)) →
      PS (cxOf CX0 P w K mg base (z :: y :: N) qual scope f cdv A outer s H E).nox (.Assign [.Name y p0] (.Call (.Name o p1) [.Name z p2] [] p3) p4) (tAsg (fun σ H Q => (tCons (tVar 0) tNil) σ H fun vs H1 => spOpen K vs H1 Q E0) (gName 1)))
    (hb : ∀ (cdv : Value) (A : Around) (outer : List Env) (s : Shared) (H : Hp) (E : XK), A.guards = some [] → Room k (A.deeper (PyProof.Rows.envOfC qual scope s.heap.objs.size f cdv)) → SSs (cxOf CX0 P w K mg base (z :: y :: N) qual scope f cdv A outer s H E).nox rest b) :
    FnG P w K mg base (k + 1) f fd [z] (spLaw K) := by
  refine fn_ofG FL S (fun vs H Q E ⟨a, ns, e, _⟩ => by rw [e]; rfl) fun cdv A outer s H vs Q E hg hr ⟨a, ns, ev, hS, hl, q⟩ => ?_
  subst ev
  refine ⟨_, pss_cons (h0 cdv A outer s H E hg hr) (hb cdv A outer s H E hg hr), ?_⟩
  refine ⟨.ref a, rfl, a, ns, rfl, hS, hl, fun H' p c s0 sm hp hc src => ?_⟩
  obtain ⟨s', e⟩ := ok s0
  refine ⟨⟨p, c, fun b => b = p ∨ b = c, H', []⟩, [none, some .src] ++ List.replicate N.length none, s0, _, s', ⟨fun b o h _ _ => h, ?_, .inl rfl, .inr rfl, src, ?_, ?_, ?_, ?_, ?_, fun p hp => nomatch hp⟩, e, fun v H1 _ _ r => ?_⟩
  · rintro b (rfl | rfl)
    · exact ⟨_, src.1⟩
    · exact ⟨_, src.2.1⟩
  · simp [L2.start]
  · intro i x h
    match i, h with
    | 0, h => cases h
    | 1, h => cases h
    | i + 2, h =>
      simp [List.getElem?_replicate] at h
  · intro i h
    match i, h with
    | 0, h => cases h
    | 1, h => rfl
    | i + 2, h => simp [List.getElem?_replicate] at h
  · intro i x h
    match i, h with
    | 0, h => cases h
    | 1, h => cases h
    | i + 2, h => simp [List.getElem?_replicate] at h
  · intro i j x y p h
    match i, h with
    | 0, h => cases h
    | 1, h => cases h
    | i + 2, h => simp [List.getElem?_replicate] at h
  · cases r
    exact q H1
end
end Sm

set_option Elab.async false
set_option linter.all false
set_option maxRecDepth 100000
set_option maxHeartbeats 4000000
namespace Sm
open PySem PySem.Spec L2

/-! ### the source -/
inductive Fld where
  | left | mixed | turn
def Fld.nm : Fld → Str
  | .left => "left"
  | .mixed => "mixed"
  | .turn => "turn"
def Fld.get : Fld → Ss → Int
  | .left, s => s.left
  | .mixed, s => s.mixed
  | .turn, s => s.turn
def Fld.put : Fld → Int → Ss → Ss
  | .left, n, s => { s with left := n }
  | .mixed, n, s => { s with mixed := n }
  | .turn, n, s => { s with turn := n }
def srcL (c : Addr) (s : Ss) : List (Key × V) := [(.inr "cells", .ref c), (.inr "left", .int s.left), (.inr "mixed", .int s.mixed), (.inr "turn", .int s.turn)]
theorem srcL_get (c : Addr) (s : Ss) (k : Fld) : valV (srcL c s) (.inr k.nm) = some (.int (k.get s)) := by
  cases k <;> rfl
theorem srcL_put (c : Addr) (s : Ss) (k : Fld) (n : Int) : putK (srcL c s) (.inr k.nm) (.int n) = srcL c (k.put n s) := by
  cases k <;> rfl
theorem srcL_cells (c : Addr) (s : Ss) : valV (srcL c s) (.inr "cells") = some (.ref c) := rfl
theorem Fld.put_cells (k : Fld) (n : Int) (s : Ss) : (k.put n s).cells = s.cells := by cases k <;> rfl
theorem SrcAt.d {a c : Addr} {H : Hp} {s : Ss} (h : SrcAt a c H s) : H a = some (.dK (srcL c s)) := h.1
theorem SrcAt.get {a c : Addr} {H : Hp} {s : Ss} (h : SrcAt a c H s) (k : Fld) : DGet H a (.str k.nm) (some (.int (k.get s))) := .inl ⟨_, .inr k.nm, .inl h.d, rfl, (srcL_get c s k).symm⟩
theorem SrcAt.getc {a c : Addr} {H : Hp} {s : Ss} (h : SrcAt a c H s) : DGet H a (.str "cells") (some (.ref c)) := .inl ⟨_, .inr "cells", .inl h.d, rfl, rfl⟩
/-- a number of the source -/
def eSg (i : Nat) (k : Fld) : Ev → M D := fun ρ s => match ρ[i]? with
  | some (some .src) => some (.int (k.get s), s)
  | _ => none
/-- a number laid into the source -/
def spF (k : Fld) (ρ : Ev) (s : Ss) : Option (Option Vl) → D → Option (Out × Ss)
  | some (some .src), .int n => some (.nx ρ, k.put n s)
  | _, _ => none
theorem spF_some {k : Fld} {ρ : Ev} {s : Ss} {o : Option (Option Vl)} {y : D} {r : Out × Ss} (h : spF k ρ s o y = some r) : o = some (some .src) ∧ ∃ n, y = .int n ∧ (Out.nx ρ, k.put n s) = r := by
  unfold spF at h
  split at h
  · cases h
    exact ⟨rfl, _, rfl, rfl⟩
  · cases h
def sSp (i : Nat) (k : Fld) (f : Ev → M D) : Ev → M Out := fun ρ => bnd (f ρ) fun x s => spF k ρ s ρ[i]? x
theorem FR.put {K : PySem.W.Frag} {Γ : Gh} {ρ : Ev} {σ : L2.St} {H : Hp} {s : Ss} (F : FR K Γ ρ σ H s) (k : Fld) (n : Int) : Nx Γ H (upd H Γ.sd (.dK (putK (srcL Γ.sc s) (.inr k.nm) (.int n)))) (k.put n s) := by
  obtain ⟨h1, h2, h3⟩ := F.src
  refine ⟨fun b o h n1 n2 => by rw [upd_ne n1]; exact h, ?_, ?_, h3⟩
  · rw [upd_same, srcL_put]
    rfl
  · rw [upd_ne (Ne.symm h3), Fld.put_cells]
    exact h2
section
variable {X : Cx}
theorem se_sg (hu : X.A.units + 1 < cLine) (i : Nat) (k : Fld) {x : Str} {pos p2 p3 : Pos} {j : Nat} (hN : X.N[i]? = some x := by rfl) (hv : Vis X.env.scope x := by first | exact Or.inl rfl | exact Or.inr (Or.inl rfl) | exact Or.inr (Or.inr rfl)) (hd : (x == ("__debug__" : Str)) = false := by decide)
    (hcd : (x == ("__classdict__" : Str)) = false := by decide) : SE X (.Subscript (.Name x pos) (.Constant (.str k.nm) j p2) p3) (eSg i k) := pe_imp (pe_dget hu (pe_var hN hv hd hcd) pe_str (fun _ _ => rfl)) fun σ H Q ⟨Γ, ρ, s, y, s', F, e, q⟩ => by
  unfold eSg at e
  split at e
  · rename_i h
    cases e
    exact ⟨_, F.srcv i h, _, _, rfl, F.src.get k, q _ H F.nx0 (.int _)⟩
  · cases e
theorem ss_sp (hu : X.A.units + 1 < cLine) (i : Nat) (k : Fld) {x : Str} {e : Expr} {fe : Ev → M D} {pos p2 p3 p4 : Pos} {j : Nat} (he : SE X e fe) (hs : swapsWith e (some (.Subscript (.Name x pos) (.Constant (.str k.nm) j p2) p3)) p4.line X.env = pure false := by rfl) (hN : X.N[i]? = some x := by rfl) (hv : Vis X.env.scope x := by first | exact Or.inl rfl | exact Or.inr (Or.inl rfl) | exact Or.inr (Or.inr rfl)) (hd : (x == ("__debug__" : Str)) = false := by decide)
    (hcd : (x == ("__classdict__" : Str)) = false := by decide) : SS X (.Assign [.Subscript (.Name x pos) (.Constant (.str k.nm) j p2) p3] e p4) (sSp i k fe) := ps_imp (ps_dput hu (pe_var hN hv hd hcd) pe_str he hs) fun C σ H ⟨Γ, ρ, s, o, s', F, e, q⟩ => by
  obtain ⟨y, s1, e1, e2⟩ := bnd_some e
  refine ⟨Γ, ρ, s, y, s1, F, e1, fun v H1 n1 r => ?_⟩
  have F1 := F.nx n1
  have e2 : spF k ρ s1 ρ[i]? y = some (o, s') := e2
  obtain ⟨h, n, rfl, e3⟩ := spF_some e2
  cases e3
  cases r
  exact ⟨_, F1.srcv i h, _, _, rfl, .k (k := .inr k.nm) F1.src.d (by unfold srcL; rw [sizeLine_eq]; simp), q _ _ (F1.nx (F1.put k n))⟩

/-! ### cells out of the source, one by one -/
def popL : Nat → Ss → Ss
  | 0, s => s
  | n + 1, s => if s.left < 2 then (match s.cells.getLast? with
    | some x => popL n { s with cells := s.cells.dropLast, left := x }
    | none => s) else s
def popS (s : Ss) : Ss := popL s.cells.length s
def sPops (i j : Nat) : Ev → M Out := fun ρ s => match ρ[i]?, ρ[j]? with
  | some (some .src), some none => some (.nx ρ, popS s)
  | _, _ => none
theorem FR.off {K : PySem.W.Frag} {Γ : Gh} {ρ : Ev} {σ : L2.St} {H : Hp} {s : Ss} {j : Nat} {v : Option V} (F : FR K Γ ρ σ H s) (h : ρ[j]? = some none) : FR K Γ ρ (σ.set j v) H s := by
  have no : ∀ {i : Nat} {w : Vl}, ρ[i]? = some (some w) → j ≠ i := fun e z => by subst z; rw [h] at e; cases e
  have up : ∀ b, MM Γ ρ (σ.set j v) b → MM Γ ρ σ b := fun b z => z.imp id fun ⟨i, x, e1, e2⟩ => ⟨i, x, e1, by rw [List.getElem?_set_ne (no e1)] at e2; exact e2⟩
  refine ⟨F.keep, F.dom, F.msd, F.msc, F.src, by rw [List.length_set]; exact F.len, fun i x e => ?_, fun i e => ?_, fun i x e => ?_, fun i l x y q h1 h2 h3 h4 => ?_, fun q hq => (F.pin q hq).less up⟩
  · obtain ⟨w, e1, r⟩ := F.val i x e
    exact ⟨w, by rw [List.getElem?_set_ne (no e)]; exact e1, r.less up⟩
  · rw [List.getElem?_set_ne (no e)]
    exact F.srcv i e
  · obtain ⟨q, e1, e0, nA, ws, ds, ex, e2, r⟩ := F.own i x e
    exact ⟨q, by rw [List.getElem?_set_ne (no e)]; exact e1, e0, nA, ws, ds, ex, e2, r.less up⟩
  · rw [List.getElem?_set_ne (no h1)] at h3
    rw [List.getElem?_set_ne (no h2)] at h4
    exact F.inj i l x y q h1 h2 h3 h4
theorem ite_t {c : Prop} [Decidable c] {P Q : Prop} (h : c) (p : P) : if c then P else Q := by rw [if_pos h]; exact p
theorem ite_f {c : Prop} [Decidable c] {P Q : Prop} (h : ¬ c) (p : Q) : if c then P else Q := by rw [if_neg h]; exact p
/-- the loop itself, at the object -/
theorem pops_run {K : PySem.W.Frag} {Γ : Gh} {ρ : Ev} {i j : Nat} (ti tj : TE) (hi : ρ[i]? = some (some .src)) (hj : ρ[j]? = some none)
    (gi : ∀ σ H s (Q : VK), FR K Γ ρ σ H s → Q (.ref Γ.sd) H → ti σ H Q) {C : Ends} {σ : L2.St} {H : Hp} {s : Ss} (F : FR K Γ ρ σ H s)
    (gj : ∀ σ H s (Q : VK), FR K Γ ρ σ H s → σ[j]? = some (some (.ref Γ.sc)) → Q (.ref Γ.sc) H → tj σ H Q) (hσ : σ[j]? = some (some (.ref Γ.sc)))
    (k : ∀ σ' H', FR K Γ ρ σ' H' (popS s) → C.nx σ' H') :
    tWhile (tAnd (L2.tB (tLt (tDGet ti (tC (.str "left"))) (tC (.int 2)))) (L2.tB (tGt (tCB (rLen K) (tCons tj tNil)) (tC (.int 0))))) (sDPut ti (tC (.str "left")) (tBM0 K "list" rPop tj)) C σ H := by
  refine ⟨fun m σ H => ∃ s1, FR K Γ ρ σ H s1 ∧ σ[j]? = some (some (.ref Γ.sc)) ∧ s1.cells.length = m ∧ popL m s1 = popS s, ⟨_, s, F, hσ, rfl, rfl⟩, ?_⟩
  rintro m σ1 H1 ⟨s1, F1, h1, hm, hp⟩
  have hsd := F1.src.d
  have hsc := F1.src.2.1
  refine gi σ1 H1 s1 _ F1 ⟨_, _, rfl, F1.src.get .left, _, _, rfl, rfl, _, rfl, ?_⟩
  have fin : popL m s1 = s1 → C.nx σ1 H1 := fun e => k σ1 H1 (by rw [← hp, e]; exact F1)
  by_cases hl : s1.left < 2
  · have hd : decide (Fld.left.get s1 < 2) = true := decide_eq_true hl
    refine ite_t hd ?_
    refine gj σ1 H1 s1 _ F1 h1 ⟨_, _, rfl, SqL.of hsc |> fun z => .inl ⟨_, z, rfl⟩, _, _, rfl, rfl, _, rfl, ?_⟩
    cases m with
    | zero =>
      exact ite_f (by rw [List.length_map, hm]; decide) (fin rfl)
    | succ m =>
      refine ite_t (by rw [List.length_map, hm]; exact decide_eq_true (by omega)) ⟨fun σ H => ∃ s1, FR K Γ ρ σ H s1 ∧ σ[j]? = some (some (.ref Γ.sc)) ∧ s1.cells.length = m ∧ popL m s1 = popS s, fun σ' H' h => ⟨m, Nat.lt_succ_self m, h⟩, ?_⟩
      obtain ⟨y, hy⟩ : ∃ y, s1.cells.getLast? = some y := by
        cases q : s1.cells.getLast? with
        | some y => exact ⟨y, rfl⟩
        | none =>
          rw [List.getLast?_eq_none_iff] at q
          rw [q] at hm
          cases hm
      have hp2 : popL m { s1 with cells := s1.cells.dropLast, left := y } = popS s := by
        rw [← hp]
        show _ = (if s1.left < 2 then _ else _)
        rw [if_pos hl, hy]
      refine gj σ1 H1 s1 _ F1 h1 ⟨.inl ⟨rfl, _, SqL.of hsc⟩, Γ.sc, s1.cells.map V.int, V.int y, rfl, rfl, hsc, ?_, ?_⟩
      · rw [List.length_map, List.getElem?_map, ← List.getLast?_eq_getElem?, hy]
        rfl
      · have hne := F1.src.2.2
        have F2 : FR K Γ ρ σ1 (upd H1 Γ.sc (.lst (s1.cells.map V.int).dropLast)) { s1 with cells := s1.cells.dropLast } := F1.nx ⟨fun b o h n1 n2 => by rw [upd_ne n2]; exact h, by
            refine ⟨by rw [upd_ne hne]; exact F1.src.1, ?_, hne⟩
            rw [upd_same, List.map_dropLast]⟩
        refine gi σ1 _ _ _ F2 ⟨_, _, rfl, .k (k := .inr Fld.left.nm) F2.src.d (by unfold srcL; rw [sizeLine_eq]; simp), ?_⟩
        refine ⟨{ s1 with cells := s1.cells.dropLast, left := y }, F2.nx (F2.put .left y), h1, ?_, hp2⟩
        show s1.cells.dropLast.length = m
        rw [List.length_dropLast, hm]
        rfl
  · have hd : decide (Fld.left.get s1 < 2) = false := decide_eq_false hl
    refine ite_f (by rw [show ((fun (i j : Int) => decide (i < j)) (Fld.left.get s1) 2) = false from hd]; exact Bool.false_ne_true) (ite_f Bool.false_ne_true ?_)
    refine fin ?_
    cases m with
    | zero => rfl
    | succ m => exact if_neg hl
theorem sPops_some {i j : Nat} {ρ : Ev} {s : Ss} {r : Out × Ss} (h : sPops i j ρ s = some r) : ρ[i]? = some (some .src) ∧ ρ[j]? = some none ∧ (Out.nx ρ, popS s) = r := by
  unfold sPops at h
  split at h
  · rename_i h1 h2
    cases h
    exact ⟨h1, h2, rfl⟩
  · cases h
theorem ss_pops (hu : X.A.units + 1 < cLine) (i j : Nat) {x y : Str} {sts : List Stmt} {g : Ev → M Out} {q1 q2 q3 q4 q5 q6 q7 q8 q9 q10 q11 q12 q13 q14 q15 q16 q17 q18 q19 q20 q21 q22 q23 q24 : Pos} {k1 k2 k3 k4 k5 : Nat} (hp : PassesOwn (model X.prog X.w) X.A X.env X.xe) (hN : X.N.Nodup) (hg : Gl X "len") (hm : X.mg "len" = none) (h2 : SSs X sts g)
    (hi : X.N[i]? = some x := by rfl) (hj : X.N[j]? = some y := by rfl) (hx : X.env.scope.names.lookup x = some .local := by rfl) (hy : X.env.scope.names.lookup y = some .local := by rfl) (hd : (x == ("__debug__" : Str)) = false := by decide) (hd2 : (y == ("__debug__" : Str)) = false := by decide)
    (hcd : (x == ("__classdict__" : Str)) = false := by decide) (hcd2 : (y == ("__classdict__" : Str)) = false := by decide)
    (h3 : swapsWith (.Subscript (.Name x q1) (.Constant (.str "cells") k1 q2) q3) (some (.Name y q4)) q5.line X.env = pure false := by rfl)
    (h4 : swapsWith (.Call (.Attribute (.Name y q16) "pop" q17) [] [] q18) (some (.Subscript (.Name x q19) (.Constant (.str "left") k5 q20) q21)) q22.line X.env = pure false := by rfl)
    (h5 : starEach [.Name y q9] X.env = (false, eval (.Name y q9) X.env) :: starEach [] X.env := by rfl) (h6 : (backTo q10 (starEach [] X.env)).any (·.1) = false := by rfl) (h7 : attributeBase (.Name y q16) "pop" X.env (eval (.Name y q16) X.env) = eval (.Name y q16) X.env := by rfl) (h8 : (q17.endLine == q18.line) = true := by rfl) :
    SSs X (.Assign [.Name y q4] (.Subscript (.Name x q1) (.Constant (.str "cells") k1 q2) q3) q5 ::
      .While (.BoolOp .And [.Compare (.Subscript (.Name x q6) (.Constant (.str "left") k2 q7) q8) [.Lt] [.Constant (.int 2) k3 q23] q24, .Compare (.Call (.Name "len" q11) [.Name y q9] [] q10) [.Gt] [.Constant (.int 0) k4 q12] q13] q14)
        [.Assign [.Subscript (.Name x q19) (.Constant (.str "left") k5 q20) q21] (.Call (.Attribute (.Name y q16) "pop" q17) [] [] q18) q22] [] q15 :: sts) (sSeq (sPops i j) g) := by
  have vx : Vis X.env.scope x := .inl hx
  have vy : Vis X.env.scope y := .inl hy
  refine pss_imp (pss_cons (ps_set hN hj (.inl hy) (pe_dget hu (pe_var hi vx hd hcd) pe_str (fun _ _ => rfl)) h3 (.inr hy)) (pss_cons (ps_while hp (pw_and (pt_cmp (pc_lt (pe_dget hu (pe_var hi vx hd hcd) pe_str (fun _ _ => rfl)) pe_int)) (pw_and1 (pt_cmp (pc_gt (pe_callB call_len hg hm boot_len (pa_cons (pe_var hj vy hd2 hcd2) pa_nil h5) (by decide) (by decide) h5 h6) pe_int)))).pt
    (pss_one (ps_dput hu (pe_var hi vx hd hcd) pe_str (pe_bm0 F.plainAttrs_list F.slot_list_pop F.type_list_pop mt_pop (pe_var hj vy hd2 hcd2) h7 h8) h4))) h2)) fun C σ H ⟨Γ, ρ, s, o, s', F, e, k⟩ => ?_
  obtain ⟨o1, s1, e1, e⟩ := bnd_some e
  obtain ⟨z1, z2, e3⟩ := sPops_some e1
  cases e3
  have hl : j < σ.length := by
    rw [F.len]
    exact (List.getElem?_eq_some_iff.mp z2).1
  refine ⟨_, F.srcv i z1, _, _, rfl, F.src.getc, ?_⟩
  refine pops_run (K := X.K) (tVar i) (tVar j) z1 z2 (fun σ H s Q F q => ⟨_, F.srcv i z1, q⟩) (F.off z2) (fun σ H s Q F e q => ⟨_, e, q⟩) (List.getElem?_set_self hl) fun σ' H' F' => ?_
  exact ⟨Γ, ρ, _, o, s', F', e, k⟩
end
end Sm

set_option Elab.async false
set_option linter.all false
set_option maxRecDepth 100000
set_option maxHeartbeats 4000000
namespace Sm
open PySem PySem.Spec L2

/-! ### the source opened over a script -/
abbrev rAdd : R2 := rI0 fun i j => .int (i + j)
abbrev rMulA : R2 := rI CMulA fun i j => .int (i * j)
abbrev rModA : R2 := rI (fun _ j => j ≠ 0) fun i j => .int (i.fmod j)
abbrev rInt1 : List V → Hp → VK → Prop := fun xs H Q => (∃ i, xs = [.int i] ∧ Q (.int i) H) ∨ ∃ k, xs = [.bl k] ∧ Q (.int (if k then 1 else 0)) H
abbrev rAbs1 : List V → Hp → VK → Prop := fun xs H Q => ∃ i, xs = [.int i] ∧ Q (.int (if i < 0 then -i else i)) H
def tOpen (K : PySem.W.Frag) : TS := tSeq (tAsg (tC (.int 11)) (gName 1))
  (tSeq (tFor (iList K (tVar 0)) (gName 2) (tAsg (tOp rModA (tCB rInt1 (tCons (tOp rAdd (tOp rAdd (tOp rMulA (tVar 1) (tC (.int 69069))) (tOp rMulA (tVar 2) (tC (.int 31)))) (tC (.int 5))) tNil)) (tC (.int 2147483629))) (gName 1)))
  (tSeq (tAsg (tLc (iList K (tVar 0)) (gName 2) tYes (tCB rAbs1 (tCons (tVar 2) tNil)) [2]) (gName 3))
    (tRet (tDisp [(tC (.str "cells"), tRevL K (tVar 3)), (tC (.str "left"), tC (.int 1)), (tC (.str "mixed"), tVar 1), (tC (.str "turn"), tC (.int 0))]))))
def stir : Int → List Int → Int
  | m, [] => m
  | m, c :: cs => stir ((m * 69069 + c * 31 + 5).fmod 2147483629) cs
def absI1 (i : Int) : Int := if i < 0 then -i else i
theorem sm64 {j : Int} (h : -(2 ^ 64) < j ∧ j < 2 ^ 64) (i : Int) : CMulA i j := .inr (.inr h)
theorem lim63 {n : Nat} (h : n ≤ 63) : n < sizeLine := by rw [sizeLine_eq]; omega
theorem sqL_ext {K : PySem.W.Frag} {H H' : Hp} {a : Addr} {xs : List V} (h : SqL K H a xs) (e : ∀ b o, H b = some o → H' b = some o) : SqL K H' a xs := h.imp (fun q => q.imp (e _ _) fun ⟨ob, z⟩ => ⟨ob, e _ _ z⟩) id
theorem stir_app (m : Int) (xs : List Int) (c : Int) : stir m (xs ++ [c]) = ((stir m xs) * 69069 + c * 31 + 5).fmod 2147483629 := by
  induction xs generalizing m with
  | nil => rfl
  | cons x xs ih => exact ih _
theorem open_run {K : PySem.W.Frag} {vs : List V} {H : Hp} {Q : VK} {E : XK} (h : spOpen K vs H Q E) : tOpen K { nx := fun _ H' => Q .non H', rt := Q } (L2.start ["script", "stirred", "cell", "cells"] vs) H := by
  obtain ⟨a, ns, rfl, hS, hl, q⟩ := h
  refine ⟨.ref a, rfl, a, rfl, ⟨_, hS⟩, ?_⟩
  refine for_list (xs := ns.map V.int) (fun i σ H' => H' = H ∧ ∃ (c : Option V), σ = [some (.ref a), some (.int (stir 11 (ns.take i))), c, none]) ⟨rfl, none, rfl⟩ (fun i σ H' _ ⟨e, _⟩ => e ▸ hS) ?_ ?_
  · rintro i x σ H' hx ⟨rfl, c, rfl⟩
    rw [List.getElem?_map] at hx
    obtain ⟨n, hn, rfl⟩ := Option.map_eq_some_iff.mp hx
    refine ⟨_, rfl, stir 11 (ns.take i), 69069, rfl, rfl, sm64 (by decide) _, _, rfl, n, 31, rfl, rfl, sm64 (by decide) _, _, _, rfl, rfl, _, _, rfl, rfl, .inl ⟨_, rfl, _, _, rfl, rfl, (show (2147483629 : Int) ≠ 0 by decide), rfl, some (.int n), ?_⟩⟩
    rw [List.take_add_one, hn, Option.toList_some, stir_app]
    rfl
  · rintro σ H' ⟨rfl, c, rfl⟩
    rw [List.length_map, List.take_length]
    refine ⟨_, rfl, a, rfl, ⟨_, hS⟩, fun D hD => ?_⟩
    have hSD : ∀ o, SqL K (upd H' D o) a (ns.map V.int) := fun o => sqL_ext hS fun b u e => by rw [upd_ne (ne_of_none e hD)]; exact e
    refine lc_list (xs := ns.map V.int) (fun i H2 => H2 = upd H' D (.lst ((ns.take i).map fun n => V.int (absI1 n)))) rfl (fun i H2 _ e => e ▸ hSD _) ?_ ?_
    · rintro i x H2 hx rfl
      rw [List.getElem?_map] at hx
      obtain ⟨n, hn, rfl⟩ := Option.map_eq_some_iff.mp hx
      have hlt : i < ns.length := (List.getElem?_eq_some_iff.mp hn).1
      refine ⟨rfl, ?_⟩
      unfold tYes
      refine ite_t rfl ⟨_, rfl, n, rfl, _, upd_same, ?_, ?_⟩
      · rw [List.length_map, List.length_take]
        exact lim63 (by omega)
      · rw [List.take_add_one, hn, upd_upd]
        simp [absI1]
    · rintro H2 rfl
      rw [List.length_map, List.take_length]
      intro p hp
      have pD : p ≠ D := fun e => by rw [e, upd_same] at hp; cases hp
      have hp0 : H' p = none := by rw [upd_ne pD] at hp; exact hp
      refine ⟨_, rfl, D, ns.map fun n => V.int (absI1 n), rfl, SqL.of (by rw [upd_ne (Ne.symm pD), upd_same]), fun p2 h2 => ?_⟩
      have p2p : p2 ≠ p := fun e => by rw [e, upd_same] at h2; cases h2
      rw [upd_ne p2p] at h2
      have p2D : p2 ≠ D := fun e => by rw [e, upd_same] at h2; cases h2
      rw [upd_ne p2D] at h2
      refine ⟨_, rfl, ?_⟩
      refine ⟨by rw [upd_ne (Ne.symm p2p), upd_same], srcL p2 ⟨(ns.map absI1).reverse, 1, stir 11 ns, 0⟩, rfl, by unfold srcL; simp, ?_⟩
      refine q _ p p2 ⟨(ns.map absI1).reverse, 1, stir 11 ns, 0⟩ (fun b o e => ?_) hp0 h2 ⟨?_, ?_, Ne.symm p2p⟩
      · rw [upd_ne (ne_of_none e hp0), upd_ne (ne_of_none e h2), upd_ne (ne_of_none e hp0), upd_ne (ne_of_none e hD)]
        exact e
      · rw [upd_same]
        rfl
      · rw [upd_ne p2p, upd_same]
        simp [List.map_reverse, Function.comp_def]
end Sm

set_option Elab.async false
set_option linter.all false
set_option maxRecDepth 100000
set_option maxHeartbeats 4000000
namespace Sm
open PySem PySem.Spec PyProof.Rows L2

/-! ### ahead of the law's call -/
/-- the only thing that stands abstractly: u at a, where the written part lacks a -/
def scriptAt (K : PySem.W.Frag) (a : Addr) (u : HO) : Hp := fun b => if b = a ∧ K.lookup a = none then some u else none
section
variable {P : Program} {w : World} {K : PySem.W.Frag} {mg : Str → Option Value} {a b : Addr} {u o : HO} {h : Heap} {H : Hp}
theorem scriptAt_some (e : scriptAt K a u b = some o) : b = a ∧ K.lookup a = none ∧ u = o := by
  unfold scriptAt at e
  split at e
  · rename_i q
    cases e
    exact ⟨q.1, q.2, rfl⟩
  · cases e
/-- neither written objects nor dicts are hidden -/
def Leaves (K : PySem.W.Frag) (h : Heap) (H : Hp) : Prop := ∀ (c : Addr) (ob : Obj), h.get? c = some ob → (K.lookup c = some ob ∨ ∃ es ep, ob.data = .dict es ep) → H c = none
theorem Leaves.ns {m : Str → Option Value} (L : Leaves K h H) (n : h.Ns a m) : (hidT h H).Ns a m := by
  obtain ⟨ob, es, ep, g, d, r⟩ := n
  exact ⟨ob, es, ep, hidT_get g (L a ob g (.inr ⟨es, ep, d⟩)), d, r⟩
theorem Leaves.mod (L : Leaves K h H) (M : Mod K mg h) : Mod K mg (hidT h H) where
  kin := fun c ob l => hidT_get (M.kin c ob l) (L c ob (M.kin c ob l) (.inl l))
  glob := L.ns M.glob
  blt := by
    obtain ⟨m, n, r⟩ := M.blt
    exact ⟨m, L.ns n, r⟩
  nolimit := by
    obtain ⟨m, n, r⟩ := M.nolimit
    exact ⟨m, L.ns n, r⟩
theorem law_runs {k : Nat} {fa : Addr} {fd : FuncData} {z : Str} {sp : Sp} {t : Shared} {us : List Value} {is : List Int} (M : Mod K mg t.heap) (none_runs : t.gens = #[])
    (isL : t.heap.get? a = some { cls := .type "list", data := .seq us.toArray }) (iu : IntsAre us is) (few : is.length ≤ sizeLine) (room : Room k callerA)
    (G : ∀ base : Heap, K.In base → base.Ns mainGlobals mg → FnG P w K mg base k fa fd [z] sp) (bd : ∀ (t : Shared) (y : Value), BindsTo t fd ⟨[y], []⟩ [(z, y)])
    (give : ∀ H : Hp, Only H → SqL K H a (is.map V.int) → sp [.ref a] H (fun y _ => y = .bl true) fun _ _ _ => False) :
    codeAny (model P w) callerA (.call (.ref fa) ⟨[.ref a], []⟩) (fun r t' => r = .ok (.ret (.bool true)) ∧ OldK t.heap t'.heap ∧ t'.os = t.os ∧ AllBare t'.gens) t := by
  have ri : Vals (is.map V.int) us := vals_ints iu
  have same : us.length = is.length := iu.length
  obtain ⟨Hs, eHs⟩ : ∃ Hs, Hs = scriptAt K a (.frz { cls := .type "list", data := .seq us.toArray } (.lst (is.map V.int))) := ⟨_, rfl⟩
  have at_ : ∀ {c : Addr} {y : HO}, Hs c = some y → c = a ∧ K.lookup a = none ∧ HO.frz { cls := .type "list", data := .seq us.toArray } (.lst (is.map V.int)) = y := fun e => scriptAt_some (eHs ▸ e)
  have lv : Leaves K t.heap Hs := fun c ob g r => by
    cases q : Hs c with
    | none => rfl
    | some y =>
      obtain ⟨rfl, l, _⟩ := at_ q
      rw [isL] at g
      cases g
      rcases r with r | ⟨es, ep, r⟩
      · rw [l] at r; cases r
      · cases r
  have sq : SqL K Hs a (is.map V.int) := by
    cases l : K.lookup a with
    | none => exact .inl (.inr ⟨_, by rw [eHs]; exact if_pos ⟨rfl, l⟩⟩)
    | some ob =>
      have g := M.kin a ob l
      rw [isL] at g
      cases g
      exact .inr ⟨_, us.toArray, _, l, rfl, rfl, rfl, by rw [List.size_toArray, same]; exact few, by simpa using ri⟩
  have on : Only Hs := fun c => by
    cases q : Hs c with
    | none => exact .inl rfl
    | some y =>
      obtain ⟨_, _, rfl⟩ := at_ q
      exact .inr ⟨_, _, rfl⟩
  have hk : HOk P w Hs t.heap := fun c y e => by
    obtain ⟨rfl, _, rfl⟩ := at_ e
    exact ⟨isL, by rw [List.length_map]; exact few, us, _, ri, isL⟩
  have M2 := lv.mod M
  have E0 : Env0 P w K mg (hidT t.heap Hs) callerA [] t Hs := { frames := rfl, mod := M2, bs := fun _ _ e => of_hidT e, bsz := Nat.le_of_eq (hidT_size _ _), funs := trivial, frf := (fun c hc => nomatch (show c ∈ ([] : List Addr) from hc)), hok := hk, bare := .of_eq none_runs }
  refine codeAny_mono ((G _ M2.kin M2.glob).run callerA [] t Hs ⟨[.ref a], []⟩ [.ref a] [.ref a] (fun y _ => y = .bl true) (fun _ _ _ => False) rfl room E0 (bd t (.ref a)) (.cons rfl .nil) (give Hs on sq)) ?_
  intro r t' q
  match r, q with
  | .error _, q => exact False.elim q
  | .ok .next, q => exact False.elim q
  | .ok .brk, q => exact False.elim q
  | .ok .cont, q => exact False.elim q
  | .ok (.ret y), q =>
    obtain ⟨v, H', os, bare, un, hk', rv, ev⟩ := q
    have ev : v = .bl true := ev
    subst ev
    obtain rfl : y = Value.bool true := rv
    refine ⟨rfl, OldK.of_keep fun c ob g => ?_, os, bare⟩
    cases q : Hs c with
    | none => exact un.keep c ob g q (fun hc => nomatch (show c ∈ ([] : List Addr) from hc)) (by simp)
    | some y =>
      obtain ⟨rfl, _, rfl⟩ := at_ q
      have g2 := (hk' _ _ (un.frzs _ _ _ q)).1
      rw [isL] at g
      cases g
      exact g2
end
theorem walk_ofG {l : PySem.W.OpenLaw} {n k : Nat} {q : Program} {loose : List Str} {XP : (Str → Option Value) → Heap → Prop} {YP : World → Heap → Prop} {d : DefRec} {z : Str}
    (most : l.most = some n) (few : n ≤ sizeLine) (plain : d.params.defaults = []) (room : Room k callerA)
    (says : ∀ (w : World) (mg : Str → Option Value) (fa : Addr) (h : Heap), YP w h → h.Ns mainGlobals mg → mg d.name = some (.ref fa) →
      ∃ (K : PySem.W.Frag) (fd : FuncData) (sp : Sp), K.In h ∧ (∀ (t : Shared) (y : Value), BindsTo t fd ⟨[y], []⟩ [(z, y)]) ∧
        (∀ (H : Hp) (a : Addr) (is : List Int), is.length ≤ n → Only H → SqL K H a (is.map V.int) → sp [.ref a] H (fun y _ => y = .bl true) fun _ _ _ => False) ∧
        ∀ base : Heap, K.In base → base.Ns mainGlobals mg → FnG l.prog w K mg base k fa fd [z] sp) :
    PySem.W.WalkO q loose XP YP l.row.toRowW d [] (fun f ys => PySem.call f ys) := by
  refine Att.attach_call most plain fun w _ t mg mb fa _ _ _ _ a us is G Y _ _ _ em isL iu len none_runs => ?_
  obtain ⟨K, fd, sp, hK, bd, give, FG⟩ := says w mg fa _ Y G.T.g em
  exact law_runs ⟨hK, G.T.g, ⟨mb, G.T.b, G.T.builtins⟩, G.T.nolimit⟩ none_runs isL iu (Nat.le_trans len few) room FG bd fun H on sq => give H a is len on sq
theorem open_fn {P : Program} {w : World} {K : PySem.W.Frag} {mg : Str → Option Value} {base : Heap} {k : Nat} {f : Addr} {fd : FuncData} {x qual : Str} {params : Arguments} {body : List Stmt} {scope : Scope} {kws : List (Str × V)} (F : FunD K x qual params body scope [] kws f fd)
    (S : FnScope ["script", "stirred", "cell", "cells"] ["script"] scope)
    (hb : ∀ (cdv : Value) (A : Around) (outer : List Env) (s : Shared) (H : Hp) (E : XK), A.guards = some [] → Room k (A.deeper (PyProof.Rows.envOfC qual scope s.heap.objs.size f cdv)) → PSs (cxOf CX0 P w K mg base ["script", "stirred", "cell", "cells"] qual scope f cdv A outer s H E).nox body (tOpen K)) :
    FnG P w K mg base (k + 1) f fd ["script"] (spOpen K) :=
  fn_ofG F S (fun vs H Q E ⟨a, ns, e, _⟩ => by rw [e]; rfl) fun cdv A outer s H vs Q E hg hr h => ⟨_, hb cdv A outer s H E hg hr, open_run h⟩
/-- the module's name x is that built-in -/
def gloB (K : PySem.W.Frag) (x : Str) (id : String) : Bool := He.eqO (PySem.W.nsIn K mainGlobals x) (some (some (.builtin id)))
theorem gloB_ok {K : PySem.W.Frag} {h : Heap} {mg : Str → Option Value} {x : Str} {id : String} (X : K.In h) (G : h.Ns mainGlobals mg) (c : gloB K x id = true) : mg x = some (.builtin id) := PySem.W.mg_of X G (He.eqO_ok c)
end Sm

set_option Elab.async false
set_option linter.all false
set_option maxRecDepth 100000
set_option maxHeartbeats 4000000
namespace Sm
open PySem PySem.Spec L2

/-! ### repr -/
mutual
def noLst : D → Bool
  | .list _ => false
  | .tuple xs => noLstA xs
  | _ => true
def noLstA : List D → Bool
  | [] => true
  | x :: xs => noLst x && noLstA xs
end
section
variable {X : Cx} {pins : List (Addr × Obj)} {σ : L2.St} {H : Hp} {s : Shared} {A : Addr → Prop}
mutual
theorem Rl.reads (I : Inv X pins σ H s) : ∀ (x : D) (v : V) (u : Value), Rl X.K A H v x → RelV v u → ∃ as, Reads s.heap u x as ∧ (noLst x = true → sysModules ∉ as)
  | .none, _, _, h, r => by cases h; cases r; exact ⟨_, .none, fun _ z => nomatch z⟩
  | .bool b, _, _, h, r => by cases h; cases r; exact ⟨_, .bool b, fun _ z => nomatch z⟩
  | .int i, _, _, h, r => by cases h; obtain ⟨t, rfl⟩ := r; exact ⟨_, .int i t, fun _ z => nomatch z⟩
  | .str x, _, _, h, r => by cases h; obtain ⟨t, rfl⟩ := r; exact ⟨_, .str x t, fun _ z => nomatch z⟩
  | .list ds, _, _, h, r => by
    cases h with
    | lst e n ra =>
      cases r
      obtain ⟨z, its, n, rv, e1⟩ := I.hok _ _ e
      obtain ⟨as, h1, _⟩ := RlA.reads I ds _ _ ra rv
      exact ⟨_, .list e1 rfl rfl h1, fun z => nomatch z⟩
  | .tuple ds, _, _, h, r => by
    cases h with
    | tup e ra =>
      cases r
      obtain ⟨its, rv, ⟨⟨cls, dd, data, sl⟩, ho, hc, n, hd⟩, hs⟩ := I.tuple e.sq
      simp only at hc hd
      subst hc hd
      obtain ⟨as, h1, h2⟩ := RlA.reads I ds _ _ ra rv
      exact ⟨_, .tuple ho rfl rfl h1, fun z => h2 (by simpa [noLst] using z)⟩
  | .dict kvs, _, _, h, r => by
    cases h with
    | dct e n =>
      cases r
      obtain ⟨_, hne, vs, rk, o, es, ep, e1, ex, ed, _, pr, _⟩ := I.hok _ _ e
      cases rk
      have e0 : es.toList = [] := by
        cases q : es.toList with
        | nil => rfl
        | cons a b => rw [q] at pr; cases pr
      refine ⟨_, .dict (as := []) (bs := []) (kvs := []) e1 ex.1 ed ?_ ?_, fun _ z => ?_⟩
      · rw [e0]; exact .nil
      · rw [e0]; exact .nil
      · simp at z
        rw [z] at hne
        simp at hne
theorem RlA.reads (I : Inv X pins σ H s) : ∀ (ds : List D) (vs : List V) (us : List Value), RlA X.K A H vs ds → Vals vs us → ∃ as, ReadsAll s.heap us ds as ∧ (noLstA ds = true → sysModules ∉ as)
  | [], _, _, h, r => by cases h; cases r; exact ⟨_, .nil, fun _ z => nomatch z⟩
  | x :: ds, _, _, h, r => by
    cases h with
    | cons h1 h2 =>
      cases r with
      | cons r1 r2 =>
        obtain ⟨as, q1, q2⟩ := Rl.reads I x _ _ h1 r1
        obtain ⟨bs, q3, q4⟩ := RlA.reads I ds _ _ h2 r2
        refine ⟨_, .cons q1 q3, fun z => ?_⟩
        simp only [noLstA, Bool.and_eq_true] at z
        intro m
        rcases List.mem_append.mp m with m | m
        · exact q2 z.1 m
        · exact q4 z.2 m
end
end
/-- repr(x) is told: ints of less than 1920 bits, no list beside a dict, at most 60 deep, a text of at most LIM signs -/
def reprOk (x : D) : Bool := x.showable && (!x.hasDict || noLst x) && decide (x.depth ≤ 60) && decide (x.shown.length ≤ LIM)
def reprD (x : D) : Option D := if reprOk x = true then some (.str x.shown) else none
def rRepr (K : PySem.W.Frag) : List V → Hp → VK → Prop := fun xs H Q => ∃ v A x, xs = [v] ∧ Rl K A H v x ∧ reprOk x = true ∧ Q (.str x.shown) H
theorem call_repr {X : Cx} (hg : X.A.guards = some []) (hu : X.A.units + 70 < cLine) : CallR X (.builtin "repr") (rRepr X.K) := by
  intro pins s σ H xs us Q I r h
  obtain ⟨v, A, x, rfl, hx, ok, q⟩ := h
  obtain ⟨u, rfl, ru⟩ := vals1 r
  simp only [reprOk, Bool.and_eq_true, decide_eq_true_eq, Bool.or_eq_true, Bool.not_eq_true'] at ok
  obtain ⟨⟨⟨o1, o2⟩, o3⟩, o4⟩ := ok
  have o4 := lim_ok o4
  obtain ⟨as, rd, hno⟩ := Rl.reads I x v u hx ru
  have hsm : x.hasDict = true → sysModules ∉ as := fun z => hno (by
    rcases o2 with o2 | o2
    · rw [z] at o2; cases o2
    · exact o2)
  have road : ∀ a, u = .ref a → wpAny (model X.prog X.w) X.A (call (.builtin "repr") [u]) (EP X pins σ Q) X.xe s := fun a e => by
    subst e
    exact repr_of_reads' rd o1 hsm hg (by omega) (fun _ _ e => e) (fun h' t tk k => ⟨.str x.shown, H, I.kept k, ⟨t, rfl⟩, q⟩) o4
  cases x with
  | none =>
    cases hx
    cases ru
    exact PySem.P.repr_of_none ⟨.str _, H, I.tok _, ⟨_, rfl⟩, q⟩
  | bool b =>
    cases hx
    cases ru
    exact PySem.P.repr_of_bool ⟨.str _, H, I.tok _, ⟨_, rfl⟩, q⟩
  | int i =>
    cases hx
    obtain ⟨t, rfl⟩ := ru
    exact PySem.P.repr_of_int (of_decide_eq_true o1) ⟨.str _, H, I.tok _, ⟨_, rfl⟩, q⟩
  | str z =>
    cases hx
    obtain ⟨t, rfl⟩ := ru
    exact PySem.P.repr_of_str ⟨.str _, H, I.tok _, ⟨_, rfl⟩, q⟩
  | list ds => cases hx; cases ru; exact road _ rfl
  | tuple ds => cases hx; cases ru; exact road _ rfl
  | dict kvs => cases hx; cases ru; exact road _ rfl
end Sm

set_option Elab.async false
set_option linter.all false
set_option maxRecDepth 100000
set_option maxHeartbeats 4000000
namespace Sm
open PySem PySem.Spec L2

/-! ### t[::-1] of a tuple -/
section
open PySem.Calls PyProof.Rows
variable {prog : Program} {w : World} {A : Around} {E : Value → Shared → Prop} {s : Shared}
theorem sliceApplied_rev {sl : Addr} {vs : Value} {n : Nat} {Q : Int × Int × Nat → Shared → Prop} (hs : s.heap.IsSliceOf sl .none .none vs) (ps : IsPart vs (some (-1)))
    (h : Q ((n : Int) - 1, -1, n) s) : wpAny (model prog w) A (Builtin.Slice.sliceApplied (.ref sl) (pure (n : Int))) Q E s := by
  obtain ⟨os, hos, hcs, hds⟩ := id hs
  unfold Builtin.Slice.sliceApplied Builtin.Slice.sliceFields
  refine wpAny_bind (wpAny_bind (wpAny_field hos hds (x := .none) rfl (wpAny_bind (wpAny_field hos hds (x := .none) rfl (wpAny_bind (wpAny_field hos hds (x := vs) rfl (wpAny_pure ?_)))))))
  refine wpAny_bind (HT.slicePart_ ps ?_)
  show wpAny _ _ (if ((-1 : Int) == 0) = true then _ else _) _ _ s
  rw [if_neg (by decide)]
  refine wpAny_bind (slicePart_none (wpAny_bind (slicePart_none (wpAny_bind (wpAny_pure ?_)))))
  show wpAny _ _ (match Builtin.Slice.sliceAdjust none none (-1) (n : Int) with | (lo, hi) => pure (lo, (-1 : Int), Builtin.Slice.slicePlaces lo hi (-1))) _ _ s
  have e : Builtin.Slice.sliceAdjust none none (-1) (n : Int) = ((n : Int) - 1, -1) := by
    unfold Builtin.Slice.sliceAdjust
    simp
  rw [e]
  show wpAny _ _ (pure ((n : Int) - 1, (-1 : Int), Builtin.Slice.slicePlaces ((n : Int) - 1) (-1) (-1))) _ _ s
  have e2 : Builtin.Slice.slicePlaces ((n : Int) - 1) (-1) (-1) = n := by
    unfold Builtin.Slice.slicePlaces
    simp
    omega
  rw [e2]
  exact wpAny_pure h
theorem pick_rev (xs : Array Value) : ((List.range xs.size).filterMap fun (m : Nat) => xs[((xs.size : Int) - 1 + (m : Int) * -1).toNat]?) = xs.toList.reverse := by
  have e : (fun (m : Nat) => xs[((xs.size : Int) - 1 + (m : Int) * -1).toNat]?) = (xs[·]?) ∘ fun m => xs.size - 1 - m := by
    funext m
    have e : ((xs.size : Int) - 1 + (m : Int) * -1).toNat = xs.size - 1 - m := by omega
    show xs[((xs.size : Int) - 1 + (m : Int) * -1).toNat]? = xs[xs.size - 1 - m]?
    rw [e]
  rw [e, ← List.filterMap_map, PySem.W.krv_range, List.filterMap_reverse, PySem.W.krv_all]
theorem getItem_tuple_rev {t sl : Addr} {items : Array Value} {vs : Value} {Q : Value → Shared → Prop} (ht : IsTup s.heap t items) (hs : s.heap.IsSliceOf sl .none .none vs) (ps : IsPart vs (some (-1)))
    (h : Q (.ref s.heap.objs.size) { s with heap := s.heap.push { cls := .type "tuple", data := .seq items.toList.reverse.toArray } })
    (hsz : items.size ≤ sizeLine) : wpAny (model prog w) A (getItem (.ref t) (.ref sl)) Q E s := by
  have htake : sizeOk (.seq items.toList.reverse.toArray) := by
    show items.toList.reverse.toArray.size ≤ sizeLine
    simpa using hsz
  obtain ⟨os, hos, hcs, hds⟩ := id hs
  have hTs : s.TypeIs (.ref sl) "slice" := ⟨os, hos, hcs⟩
  unfold getItem
  try with_reducible refine wpAny_holding ?_
  first | refine wpAny_bind (wpAny_pure ?_) | skip
  refine wpAny_bind (wpAny_sequenceKey ht.typeIs (by decide) ?_)
  refine wpAny_bind (wpAny_callSpecial?_slot (name := Str.ofString "__getitem__") ht.typeIs PyProof.Rows.slot_tuple_getitem
    (wpAny_call_entry PyProof.Rows.slot_tuple_getitem ht.typeIs entry_tuple_getitem ?_ (args_tuple_getitem _ _)))
  show wpAny _ _ (Builtin.Tuple.tupleItemsOf (.ref t) >>= _) _ _ s
  refine wpAny_bind (tupleItemsOf_ ht ?_)
  refine wpAny_bind (wpAny_typeOf hTs ?_)
  rw [if_pos (by decide)]
  refine wpAny_bind (sliceApplied_rev hs ps ?_)
  show wpAny _ _ (if ((((items.size : Nat) : Int) - 1) == 0 && (-1 : Int) == 1 && items.size == items.size) = true then _ else _) _ _ s
  rw [if_neg (by simp), pick_rev]
  first
    | exact wpAny_bind (m := Builtin.Tuple.tupleExact _) (wpAny_newObj_type (wpAny_pure ⟨_, rfl, wpAny_pure h⟩) htake)
    | exact wpAny_bind (m := Builtin.Tuple.tupleExact _) (wpAny_newObj_type (wpAny_bind (wpAny_pure (wpAny_pure ⟨_, rfl, wpAny_pure h⟩))) htake)
    | exact wpAny_bind (wpAny_bind (m := Builtin.Tuple.tupleExact _) (wpAny_newObj_type (wpAny_pure (wpAny_pure ⟨_, rfl, wpAny_pure h⟩)) htake))
    | exact wpAny_bind (wpAny_bind (m := Builtin.Tuple.tupleExact _) (wpAny_newObj_type (wpAny_pure ⟨_, rfl, wpAny_pure h⟩) htake))
end

/-! ### e[::-1] -/
def tRevA (K : PySem.W.Frag) (te : TE) : TE := fun σ H Q => te σ H fun x H1 => ∃ a xs, x = .ref a ∧ ((SqL K H1 a xs ∧ ∀ p, H1 p = none → Q (.ref p) (upd H1 p (.lst xs.reverse))) ∨ (SqT K H1 a xs ∧ ∀ p, H1 p = none → Q (.ref p) (upd H1 p (.tup xs.reverse))))
section
open PySem.Calls PyProof.Rows
variable {X : Cx} {e : Expr} {te : TE} {k : Nat} {p1 p2 p3 pos : Pos} {fe : Ev → M D}
theorem pe_revA (he : PE X e te) : PE X (.Subscript e (.Slice none none (some (.UnaryOp .USub (.Constant (.int 1) k p1) p2)) p3) pos) (tRevA X.K te) := by
  refine ⟨fun pins s σ H Q I h => ?_⟩
  refine Subscript_ (thn (he.run pins s σ H _ I h) fun v s1 ⟨x, H1, I1, r1, q1⟩ => ?_)
  obtain ⟨a, xs, ex, q⟩ := q1
  subst ex
  cases r1
  have hst : PO X (some (.UnaryOp .USub (.Constant (.int 1) k p1) p2)) (tPart (tUn (rU fun i => .int (-i)) (tC (.int 1)))) := po_some (pe_un un_neg pe_int)
  refine wpAny_Slice ?_
  rw [evalPart_none]
  refine wpAny_pure (wpAny_pure ?_)
  refine thn (hst.run pins s1 σ H1 (fun o H4 => o = some (-1) ∧ H4 = H1) I1 ⟨1, rfl, -1, rfl, rfl, rfl⟩) fun vs s4 ⟨o, H4, I4, ps, eo, e4⟩ => ?_
  subst eo e4
  have I5 : Inv X pins σ H4 { s4 with heap := s4.heap.push { cls := .type "slice", data := .fields #[.none, .none, vs] } } := I4.kept (t' := s4.toks) fun b ob q => Heap.get?_push_of_some _ q
  show wpAny (model X.prog X.w) X.A (subscriptTail e (.Slice none none (some (.UnaryOp .USub (.Constant (.int 1) k p1) p2)) p3) (.ref a) (.ref s4.heap.objs.size)) (EP X pins σ Q) X.xe { s4 with heap := s4.heap.push { cls := .type "slice", data := .fields #[.none, .none, vs] } }
  rcases q with ⟨hx, q⟩ | ⟨hx, q⟩
  · obtain ⟨its, r, ht, hz⟩ := I5.list hx
    have hlen := r.length
    refine tail_any (ops := [.ref a, .ref s4.heap.objs.size]) ht.isList.typeIs (PySem.slot_list_getitem.lookup) ?_ (by with_unfolding_all rfl)
    refine wpAny_getItem_list_slice ht.isList (Heap.IsSliceOf.new _ .none .none vs) .none .none ps (by decide) ?_ (by rw [List.size_toArray]; omega)
    rw [PySem.W.krv_pick]
    refine ⟨.ref _, _, I5.laid (t' := s4.toks) (o := .lst xs.reverse) (fun b ob q => Heap.get?_push_of_some _ q) (Nat.le_refl _) ?_, rfl, q _ (I5.hok.fresh (Nat.le_refl _))⟩
    exact ⟨by rw [List.length_reverse]; exact hz, _, 0, r.reverse, Heap.get?_push_size _ rfl⟩
  · obtain ⟨its, r, ht, hz⟩ := I5.tuple hx
    have hlen := r.length
    refine tail_any (ops := [.ref a, .ref s4.heap.objs.size]) ht.typeIs (slot_tuple_getitem.lookup) ?_ (by with_unfolding_all rfl)
    refine getItem_tuple_rev ht (Heap.IsSliceOf.new _ .none .none vs) ps ?_ (by rw [List.size_toArray]; omega)
    refine ⟨.ref _, _, I5.laid (t' := s4.toks) (o := .tup xs.reverse) (fun b ob q => Heap.get?_push_of_some _ q) (Nat.le_refl _) ?_, rfl, q _ (I5.hok.fresh (Nat.le_refl _))⟩
    exact ⟨by rw [List.length_reverse]; exact hz, _, r.reverse, PyProof.Rows.IsTup.new _ _⟩
end
def revD : D → Option D
  | .list xs => some (.list xs.reverse)
  | .tuple xs => some (.tuple xs.reverse)
  | _ => none
def revL : D → Option D
  | .list xs => some (.list xs.reverse)
  | _ => none
section
variable {X : Cx} {e : Expr} {k : Nat} {p1 p2 p3 pos : Pos} {fe : Ev → M D}
theorem se_rev (he : ST X e fe) : SE X (.Subscript e (.Slice none none (some (.UnaryOp .USub (.Constant (.int 1) k p1) p2)) p3) pos) (eUn revD fe) := pe_imp (pe_revA he) fun σ H Q ⟨Γ, ρ, s, z, s', F, e, k⟩ => by
  obtain ⟨x, s1, e1, e⟩ := bnd_some e
  obtain ⟨e2, rfl⟩ := ofO_some e
  refine ⟨Γ, ρ, s, x, s1, F, e1, fun v H1 n1 r1 => ?_⟩
  have F1 := F.nx n1
  unfold revD at e2
  split at e2
  · cases e2
    obtain ⟨p, vs, rfl, hp, q⟩ := r1.list F1
    exact ⟨p, vs, rfl, .inl ⟨SqL.of hp, aft_lst F1 q.reverse fun u H' n' r' => k u H' (n1.trans n') (r'.rl F1)⟩⟩
  · cases e2
    obtain ⟨p, vs, rfl, hp, q⟩ := r1.tup F1
    exact ⟨p, vs, rfl, .inr ⟨hp.sq, aft_tup F1 q.reverse fun u H' n' r' => k u H' (n1.trans n') r'⟩⟩
  · cases e2
theorem sf_rev (he : ST X e fe) : SF X (.Subscript e (.Slice none none (some (.UnaryOp .USub (.Constant (.int 1) k p1) p2)) p3) pos) (eUn revL fe) := pe_imp (pe_revA he) fun σ H Q ⟨Γ, ρ, s, z, s', F, e, k⟩ => by
  obtain ⟨x, s1, e1, e⟩ := bnd_some e
  obtain ⟨e2, rfl⟩ := ofO_some e
  refine ⟨Γ, ρ, s, x, s1, F, e1, fun v H1 n1 r1 => ?_⟩
  have F1 := F.nx n1
  unfold revL at e2
  split at e2
  · cases e2
    obtain ⟨p, vs, rfl, hp, q⟩ := r1.list F1
    exact ⟨p, vs, rfl, .inl ⟨SqL.of hp, aft_lst F1 q.reverse fun u H' n' r' => k u H' (n1.trans n') (r'.mono F1 n1.xs)⟩⟩
  · cases e2
end

/-! ### append, extend -/
def appF (ρ : Ev) (i : Nat) (x : D) : Option (Option Vl) → Option Ev
  | some (some (.own (.list ds))) => if ds.length < LIM then some (ρ.set i (some (.own (.list (ds ++ [x]))))) else none
  | _ => none
def sApp (i : Nat) (f : Ev → M D) : Ev → M Out := fun ρ => bnd (f ρ) fun x => bnd (ofO (appF ρ i x ρ[i]?)) fun ρ' => ret (.nx ρ')
def extF (ρ : Ev) (i : Nat) (x : D) : Option (Option Vl) → Option Ev
  | some (some (.own (.list ds))) => match x with
    | .list es => if ds.length + es.length ≤ LIM then some (ρ.set i (some (.own (.list (ds ++ es))))) else none
    | _ => none
  | _ => none
def sExt (i : Nat) (f : Ev → M D) : Ev → M Out := fun ρ => bnd (f ρ) fun x => bnd (ofO (extF ρ i x ρ[i]?)) fun ρ' => ret (.nx ρ')
section
variable {X : Cx} {e : Expr} {pos apos cpos np : Pos} {fe : Ev → M D} {x : Str}
abbrev Few (X : Cx) (e : Expr) (cpos : Pos) : Prop := ((backTo cpos (starEach [e] X.env)).all (fun x => !x.1) && (backToKw cpos (keywordEach [] X.env)).all (fun x => x.1.isSome)
      && decide ([e].length + ([] : List Keyword).length + (if ([] : List Keyword).isEmpty then 0 else 1) < 30)) = true
theorem ss_app (i : Nat) (he : SE X e fe) (hN : X.N[i]? = some x := by rfl) (hv : Vis X.env.scope x := by first | exact Or.inl rfl | exact Or.inr (Or.inl rfl) | exact Or.inr (Or.inr rfl)) (hd : (x == ("__debug__" : Str)) = false := by decide) (hcd : (x == ("__classdict__" : Str)) = false := by decide)
    (hbase : attributeBase (.Name x np) "append" X.env (eval (.Name x np) X.env) = eval (.Name x np) X.env := by rfl) (hfew : Few X e cpos := by rfl) (hline : (apos.endLine == cpos.line) = true := by rfl) (hs : A1 X e := by rfl) (hpl : (backTo cpos (starEach [] X.env)).any (·.1) = false := by rfl)
    (hsw : swapsWith (.Call (.Attribute (.Name x np) "append" apos) [e] [] cpos) none pos.line X.env = pure false := by rfl) : SS X (.Expr (.Call (.Attribute (.Name x np) "append" apos) [e] [] cpos) pos) (sApp i fe) :=
  ps_imp (ps_expr (pe_bm F.plainAttrs_list F.slot_list_append F.type_list_append mt_append (pe_var hN hv hd hcd) (pa_cons he pa_nil hs) hbase hfew hline hs hpl) hsw) fun C σ H ⟨Γ, ρ, s, o, s', F, e, k⟩ => by
  obtain ⟨y, s1, e1, e⟩ := bnd_some e
  obtain ⟨ρ', s2, e2, e⟩ := bnd_some e
  obtain ⟨e2, rfl⟩ := ofO_some e2
  obtain ⟨rfl, rfl⟩ := ret_some e
  unfold appF at e2
  split at e2
  · rename_i ds hi
    split at e2
    · rename_i hl
      cases e2
      obtain ⟨p, ep, h0, nA, vs, ds', ex, hp, r⟩ := F.own i _ hi
      cases ex
      refine ⟨.ref p, ep, .inl ⟨rfl, vs, SqL.of hp⟩, Γ, ρ, s, y, s1, F, e1, fun v H1 n1 r1 => ?_⟩
      have F1 := F.nx n1
      obtain ⟨p', ep', _, _, vs', ds', ex, hp', r'⟩ := F1.own i _ hi
      cases ex
      rw [ep] at ep'
      cases ep'
      exact ⟨p, vs', v, rfl, rfl, hp', lim_lt (by rw [r'.length]; exact Nat.le_of_lt hl), k _ _ (F1.upown hi ep (r'.append (.cons r1 .nil)))⟩
    · cases e2
  · cases e2
theorem ss_ext (i : Nat) (he : SE X e fe) (hN : X.N[i]? = some x := by rfl) (hv : Vis X.env.scope x := by first | exact Or.inl rfl | exact Or.inr (Or.inl rfl) | exact Or.inr (Or.inr rfl)) (hd : (x == ("__debug__" : Str)) = false := by decide) (hcd : (x == ("__classdict__" : Str)) = false := by decide)
    (hbase : attributeBase (.Name x np) "extend" X.env (eval (.Name x np) X.env) = eval (.Name x np) X.env := by rfl) (hfew : Few X e cpos := by rfl) (hline : (apos.endLine == cpos.line) = true := by rfl) (hs : A1 X e := by rfl) (hpl : (backTo cpos (starEach [] X.env)).any (·.1) = false := by rfl)
    (hsw : swapsWith (.Call (.Attribute (.Name x np) "extend" apos) [e] [] cpos) none pos.line X.env = pure false := by rfl) : SS X (.Expr (.Call (.Attribute (.Name x np) "extend" apos) [e] [] cpos) pos) (sExt i fe) :=
  ps_imp (ps_expr (pe_bm F.plainAttrs_list F.slot_list_extend F.type_list_extend mt_extend (pe_var hN hv hd hcd) (pa_cons he pa_nil hs) hbase hfew hline hs hpl) hsw) fun C σ H ⟨Γ, ρ, s, o, s', F, e, k⟩ => by
  obtain ⟨y, s1, e1, e⟩ := bnd_some e
  obtain ⟨ρ', s2, e2, e⟩ := bnd_some e
  obtain ⟨e2, rfl⟩ := ofO_some e2
  obtain ⟨rfl, rfl⟩ := ret_some e
  unfold extF at e2
  split at e2
  · rename_i ds hi
    split at e2
    · split at e2
      · rename_i es hl
        cases e2
        obtain ⟨p, ep, h0, nA, vs, ds', ex, hp, r⟩ := F.own i _ hi
        cases ex
        refine ⟨.ref p, ep, .inl ⟨rfl, vs, SqL.of hp⟩, Γ, ρ, s, _, s1, F, e1, fun v H1 n1 r1 => ?_⟩
        have F1 := F.nx n1
        obtain ⟨p', ep', _, _, vs', ds', ex, hp', r'⟩ := F1.own i _ hi
        cases ex
        rw [ep] at ep'
        cases ep'
        cases r1 with
        | lst hb nb rb => exact ⟨p, _, vs', _, rfl, rfl, hp', hb, lim_ok (by rw [r'.length, rb.length]; exact hl), k _ _ (F1.upown hi ep (r'.append rb))⟩
      · cases e2
    · cases e2
  · cases e2
end
end Sm

set_option Elab.async false
set_option linter.all false
set_option maxRecDepth 100000
set_option maxHeartbeats 4000000
namespace Sm
open PySem PySem.Spec L2

/-! ### sum, max, min of a list, a tuple -/
section
variable {X : Cx}
def rSumA (K : PySem.W.Frag) : List V → Hp → VK → Prop := fun vs H Q => ∃ (a : Addr) (ns : List Int), vs = [V.ref a] ∧ (SqL K H a (ns.map V.int) ∨ SqT K H a (ns.map V.int)) ∧ Q (.int ns.sum) H
def rMaxA (K : PySem.W.Frag) : List V → Hp → VK → Prop := fun vs H Q => ∃ (a : Addr) (ns : List Int), vs = [V.ref a] ∧ (SqL K H a (ns.map V.int) ∨ SqT K H a (ns.map V.int)) ∧ 0 < ns.length ∧ ∀ m, m ∈ ns → (∀ y, y ∈ ns → y ≤ m) → Q (.int m) H
def rMinA (K : PySem.W.Frag) : List V → Hp → VK → Prop := fun vs H Q => ∃ (a : Addr) (ns : List Int), vs = [V.ref a] ∧ (SqL K H a (ns.map V.int) ∨ SqT K H a (ns.map V.int)) ∧ 0 < ns.length ∧ ∀ m, m ∈ ns → (∀ y, y ∈ ns → m ≤ y) → Q (.int m) H
theorem cr_sumA (hc : X.calm = true) : CallR X (.builtin "sum") (rSumA X.K) := by
  intro pins s σ H vs us Q I r h
  obtain ⟨a, ns, rfl, hs | hs, q⟩ := h
  · exact cr_sum hc pins s σ H [.ref a] us Q I r ⟨a, ns, rfl, hs, q⟩
  · obtain ⟨its, rv, hl, _⟩ := I.tuple hs
    rw [Vals.ref1 r]
    exact sum_rawT (I.ok.hd hc) hl (intsAre_of rv) fun h' tk t' hk => ⟨.int _, H, I.kept hk, ⟨_, rfl⟩, q⟩
theorem cr_maxA (hc : X.calm = true) : CallR X (.builtin "max") (rMaxA X.K) := by
  intro pins s σ H vs us Q I r h
  obtain ⟨a, ns, rfl, hs | hs, hne, q⟩ := h
  · exact cr_max hc pins s σ H [.ref a] us Q I r ⟨a, ns, rfl, hs, hne, q⟩
  · obtain ⟨its, rv, hl, _⟩ := I.tuple hs
    rw [Vals.ref1 r]
    exact max_rawT (I.ok.hd hc) hl (intsAre_of rv) hne fun h' tk m t' hk h1 h2 => ⟨.int _, H, I.kept hk, ⟨_, rfl⟩, q m h1 h2⟩
theorem cr_minA (hc : X.calm = true) : CallR X (.builtin "min") (rMinA X.K) := by
  intro pins s σ H vs us Q I r h
  obtain ⟨a, ns, rfl, hs | hs, hne, q⟩ := h
  · exact cr_min hc pins s σ H [.ref a] us Q I r ⟨a, ns, rfl, hs, hne, q⟩
  · obtain ⟨its, rv, hl, _⟩ := I.tuple hs
    rw [Vals.ref1 r]
    exact min_rawT (I.ok.hd hc) hl (intsAre_of rv) hne fun h' tk m t' hk h1 h2 => ⟨.int _, H, I.kept hk, ⟨_, rfl⟩, q m h1 h2⟩
end
theorem maxq {ns : List Int} {m m' : Int} (e : ns.max? = some m) (h1 : m' ∈ ns) (h2 : ∀ y ∈ ns, y ≤ m') : m' = m := by
  rw [List.max?_eq_some_iff] at e
  exact Int.le_antisymm (e.2 _ h1) (h2 _ e.1)
theorem minq {ns : List Int} {m m' : Int} (e : ns.min? = some m) (h1 : m' ∈ ns) (h2 : ∀ y ∈ ns, m' ≤ y) : m' = m := by
  rw [List.min?_eq_some_iff] at e
  exact Int.le_antisymm (h2 _ e.1) (e.2 _ h1)
section
variable {K : PySem.W.Frag}
theorem cv_sum : Cv1 K (fun v H Q => rSumA K [v] H Q) sumI := by
  intro Γ ρ σ H s v x z Q F rx e k
  obtain ⟨ns, e1, rfl⟩ := Option.map_eq_some_iff.mp e
  obtain ⟨a, rfl, hs⟩ := rx.ints F e1
  exact ⟨a, ns, rfl, hs, k _ H F.nx0 (.int _)⟩
theorem cv_max : Cv1 K (fun v H Q => rMaxA K [v] H Q) maxI := by
  intro Γ ρ σ H s v x z Q F rx e k
  obtain ⟨ns, e1, e2⟩ := Option.bind_eq_some_iff.mp e
  obtain ⟨m, e3, rfl⟩ := Option.map_eq_some_iff.mp e2
  obtain ⟨a, rfl, hs⟩ := rx.ints F e1
  refine ⟨a, ns, rfl, hs, ?_, fun m' h1 h2 => ?_⟩
  · cases ns with
    | nil => cases e3
    | cons n ns => simp
  · rw [maxq e3 h1 h2]
    exact k _ H F.nx0 (.int _)
theorem cv_min : Cv1 K (fun v H Q => rMinA K [v] H Q) minI := by
  intro Γ ρ σ H s v x z Q F rx e k
  obtain ⟨ns, e1, e2⟩ := Option.bind_eq_some_iff.mp e
  obtain ⟨m, e3, rfl⟩ := Option.map_eq_some_iff.mp e2
  obtain ⟨a, rfl, hs⟩ := rx.ints F e1
  refine ⟨a, ns, rfl, hs, ?_, fun m' h1 h2 => ?_⟩
  · cases ns with
    | nil => cases e3
    | cons n ns => simp
  · rw [minq e3 h1 h2]
    exact k _ H F.nx0 (.int _)
theorem cv_lst : CvF1 K (fun v H Q => (fun (xs : List V) H (Q : VK) => ∃ p ys, xs = [.ref p] ∧ (SqL K H p ys ∨ SqT K H p ys) ∧ ∀ l, H l = none → Q (.ref l) (upd H l (.lst ys))) [v] H Q) lstD := by
  intro Γ ρ σ H s v x z Q F rx e k
  obtain ⟨xs, e1, rfl⟩ := Option.map_eq_some_iff.mp e
  obtain ⟨a, vs, rfl, hs, r⟩ := rx.items F e1
  exact ⟨a, vs, rfl, hs, aft_lst F r k⟩
theorem cv_tup : Cv1 K (fun v H Q => (fun (xs : List V) H (Q : VK) => ∃ p ys, xs = [.ref p] ∧ ((SqL K H p ys ∧ ∀ l, H l = none → Q (.ref l) (upd H l (.tup ys))) ∨ (SqT K H p ys ∧ Q (.ref p) H))) [v] H Q) tupD := by
  intro Γ ρ σ H s v x z Q F rx e k
  obtain ⟨xs, e1, rfl⟩ := Option.map_eq_some_iff.mp e
  cases x with
  | list ds =>
    cases e1
    obtain ⟨p, vs, rfl, hp, r⟩ := rx.list F
    exact ⟨p, vs, rfl, .inl ⟨SqL.of hp, aft_tup F r k⟩⟩
  | tuple ds =>
    cases e1
    obtain ⟨p, vs, rfl, hp, r⟩ := rx.tup F
    exact ⟨p, vs, rfl, .inr ⟨hp.sq, k _ H F.nx0 (.tup hp r)⟩⟩
  | _ => cases e1
theorem itemsB_some {x : D} {bs : List Bool} (h : itemsB x = some bs) : ∃ xs, x = .list xs ∧ xs = bs.map PyData.bool := by
  unfold itemsB at h
  split at h
  · exact ⟨_, rfl, boolsD_some h⟩
  · cases h
theorem cv_all : Cv1 K (fun v H Q => rAll K [v] H Q) allB := by
  intro Γ ρ σ H s v x z Q F rx e k
  obtain ⟨bs, e1, rfl⟩ := Option.map_eq_some_iff.mp e
  obtain ⟨xs, rfl, rfl⟩ := itemsB_some e1
  obtain ⟨p, vs, rfl, hp, r⟩ := rx.list F
  cases r.bools_inv
  exact ⟨p, bs, rfl, SqL.of hp, k _ H F.nx0 (.bl _)⟩
theorem cv_any : Cv1 K (fun v H Q => rAny K [v] H Q) anyB := by
  intro Γ ρ σ H s v x z Q F rx e k
  obtain ⟨bs, e1, rfl⟩ := Option.map_eq_some_iff.mp e
  obtain ⟨xs, rfl, rfl⟩ := itemsB_some e1
  obtain ⟨p, vs, rfl, hp, r⟩ := rx.list F
  cases r.bools_inv
  exact ⟨p, bs, rfl, SqL.of hp, k _ H F.nx0 (.bl _)⟩
end

/-! ### the calls, by name -/
section
variable {X : Cx} {p pos : Pos} {e e2 : Expr} {fe fe2 : Ev → M D}
theorem se_len (hm : X.mg "len" = none) (ha : ST X e fe) (hg : Gl X "len" := by rfl) (hs : A1 X e := by rfl) (hpl : (backTo pos (starEach [] X.env)).any (·.1) = false := by rfl) : SE X (.Call (.Name "len" p) [e] [] pos) (eUn lenD fe) := se_b1 call_len cv_len hg hm (by decide +kernel) ha hs hpl (by decide) (by decide)
theorem se_abs (hm : X.mg "abs" = none) (ha : ST X e fe) (hg : Gl X "abs" := by rfl) (hs : A1 X e := by rfl) (hpl : (backTo pos (starEach [] X.env)).any (·.1) = false := by rfl) : SE X (.Call (.Name "abs" p) [e] [] pos) (eUn absI fe) := se_b1 call_abs cv_abs hg hm (by decide +kernel) ha hs hpl (by decide) (by decide)
theorem se_intC (hm : X.mg "int" = none) (ha : ST X e fe) (hg : Gl X "int" := by rfl) (hs : A1 X e := by rfl) (hpl : (backTo pos (starEach [] X.env)).any (·.1) = false := by rfl) : SE X (.Call (.Name "int" p) [e] [] pos) (eUn intD fe) := se_t1 call_int1 cv_int hg hm (by decide +kernel) ha hs hpl (by decide) (by decide)
theorem se_max2 (hc : X.calm = true) (hm : X.mg "max" = none) (ha : ST X e fe) (ha2 : ST X e2 fe2) (hg : Gl X "max" := by rfl) (hs : A2 X e e2 := by rfl) (hs2 : A1 X e2 := by rfl) (hpl : (backTo pos (starEach [e2] X.env)).any (·.1) = false := by rfl) : SE X (.Call (.Name "max" p) [e, e2] [] pos) (eBin max2I fe fe2) := se_b2 (call_max2 hc) cv_max2 hg hm (by decide +kernel) ha ha2 hs hs2 hpl (by decide) (by decide)
theorem se_min2 (hc : X.calm = true) (hm : X.mg "min" = none) (ha : ST X e fe) (ha2 : ST X e2 fe2) (hg : Gl X "min" := by rfl) (hs : A2 X e e2 := by rfl) (hs2 : A1 X e2 := by rfl) (hpl : (backTo pos (starEach [e2] X.env)).any (·.1) = false := by rfl) : SE X (.Call (.Name "min" p) [e, e2] [] pos) (eBin min2I fe fe2) := se_b2 (call_min2 hc) cv_min2 hg hm (by decide +kernel) ha ha2 hs hs2 hpl (by decide) (by decide)
theorem se_sum (hc : X.calm = true) (hm : X.mg "sum" = none) (ha : ST X e fe) (hg : Gl X "sum" := by rfl) (hs : A1 X e := by rfl) (hpl : (backTo pos (starEach [] X.env)).any (·.1) = false := by rfl) : SE X (.Call (.Name "sum" p) [e] [] pos) (eUn sumI fe) := se_b1 (cr_sumA hc) cv_sum hg hm (by decide +kernel) ha hs hpl (by decide) (by decide)
theorem se_max (hc : X.calm = true) (hm : X.mg "max" = none) (ha : ST X e fe) (hg : Gl X "max" := by rfl) (hs : A1 X e := by rfl) (hpl : (backTo pos (starEach [] X.env)).any (·.1) = false := by rfl) : SE X (.Call (.Name "max" p) [e] [] pos) (eUn maxI fe) := se_b1 (cr_maxA hc) cv_max hg hm (by decide +kernel) ha hs hpl (by decide) (by decide)
theorem se_min (hc : X.calm = true) (hm : X.mg "min" = none) (ha : ST X e fe) (hg : Gl X "min" := by rfl) (hs : A1 X e := by rfl) (hpl : (backTo pos (starEach [] X.env)).any (·.1) = false := by rfl) : SE X (.Call (.Name "min" p) [e] [] pos) (eUn minI fe) := se_b1 (cr_minA hc) cv_min hg hm (by decide +kernel) ha hs hpl (by decide) (by decide)
theorem se_all (hc : X.calm = true) (hm : X.mg "all" = none) (ha : ST X e fe) (hg : Gl X "all" := by rfl) (hs : A1 X e := by rfl) (hpl : (backTo pos (starEach [] X.env)).any (·.1) = false := by rfl) : SE X (.Call (.Name "all" p) [e] [] pos) (eUn allB fe) := se_b1 (cr_all hc) cv_all hg hm (by decide +kernel) ha hs hpl (by decide) (by decide)
theorem se_any (hc : X.calm = true) (hm : X.mg "any" = none) (ha : ST X e fe) (hg : Gl X "any" := by rfl) (hs : A1 X e := by rfl) (hpl : (backTo pos (starEach [] X.env)).any (·.1) = false := by rfl) : SE X (.Call (.Name "any" p) [e] [] pos) (eUn anyB fe) := se_b1 (cr_any hc) cv_any hg hm (by decide +kernel) ha hs hpl (by decide) (by decide)
theorem se_tupC (hm : X.mg "tuple" = none) (ha : ST X e fe) (hg : Gl X "tuple" := by rfl) (hs : A1 X e := by rfl) (hpl : (backTo pos (starEach [] X.env)).any (·.1) = false := by rfl) : SE X (.Call (.Name "tuple" p) [e] [] pos) (eUn tupD fe) := se_t1 call_tuple_of cv_tup hg hm (by decide +kernel) ha hs hpl (by decide) (by decide)
theorem sf_lstC (hm : X.mg "list" = none) (ha : ST X e fe) (hg : Gl X "list" := by rfl) (hs : A1 X e := by rfl) (hpl : (backTo pos (starEach [] X.env)).any (·.1) = false := by rfl) : SF X (.Call (.Name "list" p) [e] [] pos) (eUn lstD fe) := sf_t1 call_list_of cv_lst hg hm (by decide +kernel) ha hs hpl (by decide) (by decide)
theorem se_gcd (hm : X.mg "gcd" = some (.builtin "math.gcd")) (ha : ST X e fe) (ha2 : ST X e2 fe2) (hg : Gl X "gcd" := by rfl) (hs : A2 X e e2 := by rfl) (hs2 : A1 X e2 := by rfl) (hpl : (backTo pos (starEach [e2] X.env)).any (·.1) = false := by rfl) : SE X (.Call (.Name "gcd" p) [e, e2] [] pos) (eBin gcdI fe fe2) := se_f2 cr_gcd cv_gcd hg hm ha ha2 hs hs2 hpl (by decide)
/-- repr of a value that is not looked at alone -/
theorem se_repr (hgd : X.A.guards = some []) (hu : X.A.units + 70 < cLine) (hm : X.mg "repr" = none) (ha : SE X e fe) (hg : Gl X "repr" := by rfl) (hs : A1 X e := by rfl) (hpl : (backTo pos (starEach [] X.env)).any (·.1) = false := by rfl) : SE X (.Call (.Name "repr" p) [e] [] pos) (eUn reprD fe) :=
  pe_imp (pe_callB (call_repr hgd hu) hg hm (by decide +kernel) (pa_cons ha pa_nil hs) (by decide) (by decide) hs hpl) fun σ H Q ⟨Γ, ρ, s, z, s', F, e, k⟩ => by
  obtain ⟨x, s1, e1, e⟩ := bnd_some e
  obtain ⟨e2, rfl⟩ := ofO_some e
  unfold reprD at e2
  split at e2
  · rename_i ok
    cases e2
    exact ⟨Γ, ρ, s, x, s1, F, e1, fun v H1 n1 r1 => ⟨v, _, x, rfl, r1, ok, k _ H1 n1 (.str _)⟩⟩
  · cases e2
end

/-! ### range with a step -/
def rng3N (i j c : Int) : Nat := (Builtin.Range.rangeSize i j c).toNat
def rng3L (i j c : Int) : List D := (List.range (rng3N i j c)).map fun (k : Nat) => PyData.int (i + k * c)
def r3Ok (i j c : Int) : Bool := decide (c ≠ 0) && (decide (c.natAbs < 1073741824) && (decide (i.natAbs < 2 ^ 61) && decide (j.natAbs < 2 ^ 61)))
theorem r3_fits {i : Int} (h : i.natAbs < 2 ^ 63) : Builtin.Range.rangeFitsLong i = true := by
  unfold Builtin.Range.rangeFitsLong
  rw [decide_eq_true (by omega), decide_eq_true (by omega)]
  rfl
theorem r3_ok {i j c : Int} (h : r3Ok i j c = true) : c ≠ 0 ∧ c.natAbs < 1073741824 ∧ Builtin.Range.small i j c = true ∧ 0 ≤ Builtin.Range.rangeSize i j c := by
  simp only [r3Ok, Bool.and_eq_true, decide_eq_true_eq] at h
  obtain ⟨h1, h2, h3, h4⟩ := h
  have hz : 0 ≤ Builtin.Range.rangeSize i j c ∧ Builtin.Range.rangeSize i j c < 2 ^ 63 := by
    unfold Builtin.Range.rangeSize
    split
    · split
      · have a1 := Int.ediv_nonneg (a := j - i - 1) (b := c) (by omega) (by omega)
        have a2 := Int.ediv_le_self (a := j - i - 1) c (by omega)
        omega
      · omega
    · split
      · have a1 := Int.ediv_nonneg (a := i - j - 1) (b := -c) (by omega) (by omega)
        have a2 := Int.ediv_le_self (a := i - j - 1) (-c) (by omega)
        omega
      · omega
  refine ⟨h1, h2, ?_, hz.1⟩
  unfold Builtin.Range.small
  rw [r3_fits (i := i) (by omega), r3_fits (i := j) (by omega), r3_fits (i := c) (by omega), r3_fits (i := Builtin.Range.rangeSize i j c) (by omega), r3_fits (i := j + (c - 1)) (by omega), r3_fits (i := j + (c + 1)) (by omega)]
  simp
def rng3 (x y z : D) : Option (List D) := match x, y, z with
  | .int i, .int j, .int c => if r3Ok i j c = true then some (rng3L i j c) else none
  | _, _, _ => none
theorem rng3_some {x y z : D} {ds : List D} (e : rng3 x y z = some ds) : ∃ i j c, x = .int i ∧ y = .int j ∧ z = .int c ∧ (c ≠ 0 ∧ c.natAbs < 1073741824 ∧ Builtin.Range.small i j c = true ∧ 0 ≤ Builtin.Range.rangeSize i j c) ∧ rng3L i j c = ds := by
  unfold rng3 at e
  split at e
  · split at e
    · rename_i h
      exact ⟨_, _, _, rfl, rfl, rfl, r3_ok h, Option.some.inj e⟩
    · cases e
  · cases e
def iRg3 (f g h : Ev → M D) : Ev → M (List D) := fun ρ => bnd (f ρ) fun x => bnd (g ρ) fun y => bnd (h ρ) fun z => ofO (rng3 x y z)
section
variable {X : Cx} {tg : Expr}
theorem itok_rng3 {K : PySem.W.Frag} {i c : Int} {n : Nat} : ItOk K (Itc i c n) ((List.range n).map fun (k : Nat) => PyData.int (i + k * c)) [] := by
  refine ⟨fun _ => True, YFn fun k => .int (i + (k : Nat) * c), by rw [List.length_map, List.length_range]; exact walk_rangeC, fun _ _ _ _ _ _ _ => trivial, fun Γ ρ σ H s k v H' F _ hi ⟨e, ev⟩ => ?_⟩
  subst e ev
  rw [List.length_map, List.length_range] at hi
  exact ⟨F.nx0, .int (i + k * c), by simp [List.getElem?_range hi], .int _⟩
theorem si_rg3 {a b d : Expr} {fa fb fd : Ev → M D} {p pos : Pos} (hm : X.mg "range" = none) (ha : SE X a fa) (hb : SE X b fb) (hd : SE X d fd) (hg : Gl X "range" := by rfl) (h1 : starEach [a, b, d] X.env = (false, eval a X.env) :: starEach [b, d] X.env := by rfl) (h2 : starEach [b, d] X.env = (false, eval b X.env) :: starEach [d] X.env := by rfl) (h3 : starEach [d] X.env = (false, eval d X.env) :: starEach [] X.env := by rfl)
    (hpl : (backTo pos (starEach [b, d] X.env)).any (·.1) = false := by rfl) : SI X tg (.Call (.Name "range" p) [a, b, d] [] pos) (iRg3 fa fb fd) :=
  pi_imp (pi_range3 hg hm (pa_cons ha (pa_cons hb (pa_cons hd pa_nil h3) h2) h1) h1 hpl) fun σ H R ⟨Γ, ρ, s, ds, s', F, e, k⟩ => by
  obtain ⟨x, s1, e1, e⟩ := bnd_some e
  obtain ⟨y, s2, e2, e⟩ := bnd_some e
  obtain ⟨z, s3, e3, e⟩ := bnd_some e
  obtain ⟨e4, rfl⟩ := ofO_some e
  obtain ⟨i, j, c, rfl, rfl, rfl, h, rfl⟩ := rng3_some e4
  refine ⟨Γ, ρ, s, _, s1, F, e1, fun v1 H1 n1 r1 => ⟨Γ, ρ, s1, _, s2, F.nx n1, e2, fun v2 H2 n2 r2 => ⟨Γ, ρ, s2, _, s3, (F.nx n1).nx n2, e3, fun v3 H3 n3 r3 => ?_⟩⟩⟩
  cases r1
  cases r2
  cases r3
  exact ⟨i, j, c, rng3N i j c, rfl, ⟨h.1, h.2.1, h.2.2.1, (Int.toNat_of_nonneg h.2.2.2).symm⟩, k _ [] H3 ((n1.trans n2).trans n3) (by simp) itok_rng3⟩
end
end Sm

set_option Elab.async false
set_option linter.all false
set_option maxRecDepth 100000
set_option maxHeartbeats 4000000
namespace Sm
open PySem PySem.Spec L2

/-! ### defs by name -/
/-- the module's x is a def that does what G says -/
def DefOk (P : Program) (w : World) (K : PySem.W.Frag) (mg : Str → Option Value) (base : Heap) (k : Nat) (x : Str) (n : Nat) (G : List Vl → M D) : Prop :=
  ∃ (fa : Addr) (fd : FuncData) (ps : List Str), FnG P w K mg base k fa fd ps (spD K n G) ∧ mg x = some (.ref fa) ∧ PySem.W.keepIn K (.ref fa) = true ∧ Binds K fd ps []
abbrev FnP (K : PySem.W.Frag) (x : Str) (st : Stmt) (f : Addr) (fd : FuncData) : Prop := FunD K x x (defArgs st) (defBody st) (defScope st) [] [] f fd
theorem hu70 {k : Nat} {A : Around} (hr : Room k A) : A.units + 70 < cLine := by have := hr.un; omega
theorem hu1 {k : Nat} {A : Around} (hr : Room k A) : A.units + 1 < cLine := by have := hr.un; omega
section
variable {X : Cx} {k n : Nat} {x : Str} {G : List Vl → M D} {e : Expr} {es : List Expr} {f : Ev → M (List Vl)} {p pos : Pos}
theorem se_def (Dk : DefOk X.prog X.w X.K X.mg X.base k x n G) (hgd : X.A.guards = some []) (hr : Room k X.A) (ha : SA X (e :: es) f) (hg : Gl X x := by rfl) (hdb : (x == ("__debug__" : Str)) = false := by decide)
    (he : starEach (e :: es) X.env = (false, eval e X.env) :: starEach es X.env := by rfl) (hpl : (backTo pos (starEach es X.env)).any (·.1) = false := by rfl) : SE X (.Call (.Name x p) (e :: es) [] pos) (eCall n G f) := by
  obtain ⟨fa, fd, ps, FG, hm, hk, hb⟩ := Dk
  exact se_call FG hgd hr hg hm hk hb ha hdb he hpl
end
section
variable {P : Program} {w : World} {K : PySem.W.Frag} {mg : Str → Option Value} {base : Heap} {k : Nat} {f : Addr} {fd : FuncData} {x : Str} {st : Stmt} {N ps : List Str} {b : Ev → M Out}
theorem def_ok (F : FnP K x st f fd) (hm : mg x = some (.ref f)) (S : FnScope N ps (defScope st)) (hb : Binds K fd ps [])
    (h : ∀ (cdv : Value) (A : Around) (outer : List Env) (s : Shared) (H : Hp) (E : XK), A.guards = some [] → Room k (A.deeper (PyProof.Rows.envOfC x (defScope st) s.heap.objs.size f cdv)) → SSs (cxOf CX0 P w K mg base N x (defScope st) f cdv A outer s H E).nox (defBody st) b) :
    DefOk P w K mg base (k + 1) x ps.length (fnV N.length b) := ⟨f, fd, ps, fn_sem F S h, hm, F.kp, hb⟩
/-- the opening def -/
def OpenOk (P : Program) (w : World) (K : PySem.W.Frag) (mg : Str → Option Value) (base : Heap) (k : Nat) (x : Str) : Prop :=
  ∃ (fa : Addr) (fd : FuncData), FnG P w K mg base k fa fd ["script"] (spOpen K) ∧ mg x = some (.ref fa) ∧ PySem.W.keepIn K (.ref fa) = true ∧ Binds K fd ["script"] []
theorem open_ok (F : FnP K x st f fd) (hm : mg x = some (.ref f)) (S : FnScope ["script", "stirred", "cell", "cells"] ["script"] (defScope st)) (hb : Binds K fd ["script"] [])
    (h : ∀ (cdv : Value) (A : Around) (outer : List Env) (s : Shared) (H : Hp) (E : XK), A.guards = some [] → Room k (A.deeper (PyProof.Rows.envOfC x (defScope st) s.heap.objs.size f cdv)) → PSs (cxOf CX0 P w K mg base ["script", "stirred", "cell", "cells"] x (defScope st) f cdv A outer s H E).nox (defBody st) (tOpen K)) :
    OpenOk P w K mg base (k + 1) x := ⟨f, fd, open_fn F S h, hm, F.kp, hb⟩
theorem law_def {j : Nat} {o : Str} {rest : List Stmt} {p0 p1 p2 p3 p4 : Pos} (F : FnP K x st f fd) (eb : defBody st = .Assign [.Name "source" p0] (.Call (.Name o p1) [.Name "script" p2] [] p3) p4 :: rest) (hj : j ≤ k) (O : OpenOk P w K mg base j o)
    (S : FnScope ("script" :: "source" :: N) ["script"] (defScope st)) (ok : LawOk (N.length + 2) b)
    (hl : Loc (defScope st) "source") (hl2 : (defScope st).names.lookup ("script" : Str) = some .local)
    (hgo : ∀ (cdv : Value) (A : Around) (outer : List Env) (s : Shared) (H : Hp) (E : XK), Gl (cxOf CX0 P w K mg base ("script" :: "source" :: N) x (defScope st) f cdv A outer s H E).nox o) (hdo : (o == ("__debug__" : Str)) = false)
    (hsw : ∀ (cdv : Value) (A : Around) (outer : List Env) (s : Shared) (H : Hp) (E : XK), swapsWith (.Call (.Name o p1) [.Name "script" p2] [] p3) (some (.Name "source" p0)) p4.line (cxOf CX0 P w K mg base ("script" :: "source" :: N) x (defScope st) f cdv A outer s H E).nox.env = pure false)
    (hst : ∀ (cdv : Value) (A : Around) (outer : List Env) (s : Shared) (H : Hp) (E : XK), starEach [.Name "script" p2] (cxOf CX0 P w K mg base ("script" :: "source" :: N) x (defScope st) f cdv A outer s H E).nox.env = (false, eval (.Name "script" p2) (cxOf CX0 P w K mg base ("script" :: "source" :: N) x (defScope st) f cdv A outer s H E).nox.env) :: starEach [] (cxOf CX0 P w K mg base ("script" :: "source" :: N) x (defScope st) f cdv A outer s H E).nox.env)
    (hpl : ∀ (cdv : Value) (A : Around) (outer : List Env) (s : Shared) (H : Hp) (E : XK), (backTo p3 (starEach [] (cxOf CX0 P w K mg base ("script" :: "source" :: N) x (defScope st) f cdv A outer s H E).nox.env)).any (·.1) = false)
    (h : ∀ (cdv : Value) (A : Around) (outer : List Env) (s : Shared) (H : Hp) (E : XK), A.guards = some [] → Room k (A.deeper (PyProof.Rows.envOfC x (defScope st) s.heap.objs.size f cdv)) → SSs (cxOf CX0 P w K mg base ("script" :: "source" :: N) x (defScope st) f cdv A outer s H E).nox rest b) :
    FnG P w K mg base (k + 1) f fd ["script"] (spLaw K) := by
  obtain ⟨fo, fdo, FO, hm, hk, hb⟩ := O
  have F' : FunD K x x (defArgs st) (.Assign [.Name "source" p0] (.Call (.Name o p1) [.Name "script" p2] [] p3) p4 :: rest) (defScope st) [] [] f fd := eb ▸ F
  refine law_sem F' hj FO S ok (fun cdv A outer s H E hgd hr => ?_) h
  exact ps_set S.nd rfl hl (pe_callG (FO.mono hj) hgd hr (hgo cdv A outer s H E) hm hk hb (pa_cons (pe_var rfl (.inl hl2)) pa_nil (hst cdv A outer s H E)) hdo (hst cdv A outer s H E) (hpl cdv A outer s H E)) (hsw cdv A outer s H E) (.inl rfl)
end
end Sm

set_option Elab.async false
set_option linter.all false
set_option maxRecDepth 100000
set_option maxHeartbeats 4000000
namespace Sm
open PySem PySem.Spec L2

/-! ### runs -/
/-- on with what came out -/
def rb {α β : Type} (o : Option (α × Ss)) (f : α → Ss → Option (β × Ss)) : Option (β × Ss) := match o with
  | none => none
  | some (x, s) => f x s
section
variable {α β : Type} {x : α} {s : Ss} {ρ l : Ev}
@[simp] theorem rb_some (f : α → Ss → Option (β × Ss)) : rb (some (x, s)) f = f x s := rfl
@[simp] theorem rb_none (f : α → Ss → Option (β × Ss)) : rb none f = none := rfl
@[simp] theorem bnd_run (m : M α) (f : α → M β) (s : Ss) : bnd m f s = rb (m s) f := rfl
@[simp] theorem ret_run (x : α) (s : Ss) : (ret x : M α) s = some (x, s) := rfl
@[simp] theorem err_run (s : Ss) : (err : M α) s = none := rfl
@[simp] theorem ofO_run_some (x : α) (s : Ss) : ofO (some x) s = some (x, s) := rfl
@[simp] theorem ofO_run_none (s : Ss) : (ofO (none : Option α)) s = none := rfl
@[simp] theorem ite_run (c : Prop) [Decidable c] (f g : M α) (s : Ss) : (if c then f else g) s = if c then f s else g s := by split <;> rfl
/- the slots -/
@[simp] theorem gVar_0 (x : D) (l : Ev) : gVar (some (.d x) :: l) 0 = some x := rfl
@[simp] theorem gVar_s (a : Option Vl) (l : Ev) (i : Nat) : gVar (a :: l) (i + 1) = gVar l i := rfl
@[simp] theorem gOwn_0 (x : D) (l : Ev) : gOwn (some (.d x) :: l) 0 = some x := rfl
@[simp] theorem gOwn_0o (x : D) (l : Ev) : gOwn (some (.own x) :: l) 0 = some x := rfl
@[simp] theorem gOwn_s (a : Option Vl) (l : Ev) (i : Nat) : gOwn (a :: l) (i + 1) = gOwn l i := rfl
@[simp] theorem gSrc_0 (l : Ev) : gSrc (some .src :: l) 0 = some () := rfl
@[simp] theorem gSrc_s (a : Option Vl) (l : Ev) (i : Nat) : gSrc (a :: l) (i + 1) = gSrc l i := rfl
/- expressions -/
@[simp] theorem eVar_run (i : Nat) : eVar i ρ s = ofO (gVar ρ i) s := rfl
@[simp] theorem eOwn_run (i : Nat) : eOwn i ρ s = ofO (gOwn ρ i) s := rfl
@[simp] theorem eC_run (x : D) : eC x ρ s = some (x, s) := rfl
@[simp] theorem eBin_run (g : D → D → Option D) (fa fb : Ev → M D) : eBin g fa fb ρ s = rb (fa ρ s) fun x s1 => rb (fb ρ s1) fun y s2 => ofO (g x y) s2 := rfl
@[simp] theorem eUn_run (g : D → Option D) (fa : Ev → M D) : eUn g fa ρ s = rb (fa ρ s) fun x s1 => ofO (g x) s1 := rfl
@[simp] theorem bV_run (f : Ev → M D) : bV f ρ s = rb (f ρ s) fun x s1 => ofO (asB x) s1 := rfl
@[simp] theorem asB_b (b : Bool) : asB (.bool b) = some b := rfl
@[simp] theorem bT_run : bT ρ s = some (true, s) := rfl
@[simp] theorem bAnd_run (f g : Ev → M Bool) : bAnd f g ρ s = rb (f ρ s) fun k s1 => if k = true then g ρ s1 else some (false, s1) := by
  unfold bAnd
  simp only [bnd_run]
  congr 1
  funext k s1
  exact ite_run _ _ _ _
@[simp] theorem bOr_run (f g : Ev → M Bool) : bOr f g ρ s = rb (f ρ s) fun k s1 => if k = true then some (true, s1) else g ρ s1 := by
  unfold bOr
  simp only [bnd_run]
  congr 1
  funext k s1
  exact ite_run _ _ _ _
@[simp] theorem bNot_run (f : Ev → M Bool) : bNot f ρ s = rb (f ρ s) fun k s1 => some (!k, s1) := rfl
@[simp] theorem eNot_run (f : Ev → M D) : eNot f ρ s = rb (bV f ρ s) fun k s1 => some (.bool (!k), s1) := rfl
@[simp] theorem eAnd_run (f g : Ev → M D) : eAnd f g ρ s = rb (bV f ρ s) fun k s1 => if k = true then g ρ s1 else some (.bool false, s1) := by
  unfold eAnd
  simp only [bnd_run]
  congr 1
  funext k s1
  exact ite_run _ _ _ _
@[simp] theorem eOr_run (f g : Ev → M D) : eOr f g ρ s = rb (bV f ρ s) fun k s1 => if k = true then some (.bool true, s1) else g ρ s1 := by
  unfold eOr
  simp only [bnd_run]
  congr 1
  funext k s1
  exact ite_run _ _ _ _
@[simp] theorem eIf_run (g : Ev → M Bool) (fa fb : Ev → M D) : eIf g fa fb ρ s = rb (g ρ s) fun k s1 => if k = true then fa ρ s1 else fb ρ s1 := by
  unfold eIf
  simp only [bnd_run]
  congr 1
  funext k s1
  exact ite_run _ _ _ _
@[simp] theorem aNil_run : aNil ρ s = some ([], s) := rfl
@[simp] theorem aD_run (f : Ev → M D) (g : Ev → M (List Vl)) : aD f g ρ s = rb (f ρ s) fun x s1 => rb (g ρ s1) fun as s2 => some (.d x :: as, s2) := rfl
@[simp] theorem aOwn_run (f : Ev → M D) (g : Ev → M (List Vl)) : aOwn f g ρ s = rb (f ρ s) fun x s1 => rb (g ρ s1) fun as s2 => some (.own x :: as, s2) := rfl
@[simp] theorem aSrc_run (i : Nat) (g : Ev → M (List Vl)) : aSrc i g ρ s = rb (ofO (gSrc ρ i) s) fun _ s1 => rb (g ρ s1) fun as s2 => some (.src :: as, s2) := rfl
@[simp] theorem aStar_run (f : Ev → M D) (g : Ev → M (List Vl)) : aStar f g ρ s = rb (f ρ s) fun x s1 => rb (ofO (itemsD x) s1) fun xs s2 => rb (g ρ s2) fun as s3 => some (xs.map Vl.d ++ as, s3) := rfl
@[simp] theorem eTup_run (f : Ev → M (List Vl)) : eTup f ρ s = rb (f ρ s) fun as s1 => ofO ((dispD as).map PyData.tuple) s1 := rfl
@[simp] theorem eLst_run (f : Ev → M (List Vl)) : eLst f ρ s = rb (f ρ s) fun as s1 => ofO ((dispD as).map PyData.list) s1 := rfl
theorem eCall_run (n : Nat) (G : List Vl → M D) (f : Ev → M (List Vl)) : eCall n G f ρ s = rb (f ρ s) fun as s1 => if (noOwn as && decide (as.length = n)) = true then G as s1 else none := by
  unfold eCall
  simp only [bnd_run]
  congr 1
  funext k s1
  exact ite_run _ _ _ _
@[simp] theorem eCall1 (G : List Vl → M D) (f : Ev → M D) : eCall 1 G (aD f aNil) ρ s = rb (f ρ s) fun x s1 => G [.d x] s1 := by
  rw [eCall_run]
  simp only [aD_run, aNil_run, rb_some]
  cases f ρ s with
  | none => rfl
  | some p => rfl
@[simp] theorem eCall2 (G : List Vl → M D) (f g : Ev → M D) : eCall 2 G (aD f (aD g aNil)) ρ s = rb (f ρ s) fun x s1 => rb (g ρ s1) fun y s2 => G [.d x, .d y] s2 := by
  rw [eCall_run]
  simp only [aD_run, aNil_run, rb_some]
  cases f ρ s with
  | none => rfl
  | some p =>
    obtain ⟨y1, t1⟩ := p
    simp only [rb_some]
    cases g ρ t1 <;> rfl
@[simp] theorem eCall3 (G : List Vl → M D) (f g h : Ev → M D) : eCall 3 G (aD f (aD g (aD h aNil))) ρ s = rb (f ρ s) fun x s1 => rb (g ρ s1) fun y s2 => rb (h ρ s2) fun z s3 => G [.d x, .d y, .d z] s3 := by
  rw [eCall_run]
  simp only [aD_run, aNil_run, rb_some]
  cases f ρ s with
  | none => rfl
  | some p =>
    obtain ⟨y1, t1⟩ := p
    simp only [rb_some]
    cases g ρ t1 with
    | none => rfl
    | some q =>
      obtain ⟨y2, t2⟩ := q
      simp only [rb_some]
      cases h ρ t2 <;> rfl
@[simp] theorem eCallS (i : Nat) (G : List Vl → M D) : eCall 1 G (aSrc i aNil) ρ s = rb (ofO (gSrc ρ i) s) fun _ s1 => G [.src] s1 := by
  rw [eCall_run]
  simp only [aSrc_run, aNil_run, rb_some]
  cases ofO (gSrc ρ i) s <;> rfl
@[simp] theorem eCallS1 (i : Nat) (G : List Vl → M D) (f : Ev → M D) : eCall 2 G (aSrc i (aD f aNil)) ρ s = rb (ofO (gSrc ρ i) s) fun _ s1 => rb (f ρ s1) fun x s2 => G [.src, .d x] s2 := by
  rw [eCall_run]
  simp only [aSrc_run, aD_run, aNil_run, rb_some]
  cases ofO (gSrc ρ i) s with
  | none => rfl
  | some p =>
    obtain ⟨y1, t1⟩ := p
    simp only [rb_some]
    cases f ρ t1 <;> rfl
@[simp] theorem oNone_run : oNone ρ s = some (none, s) := rfl
def asI : D → Option Int
  | .int i => some i
  | _ => none
@[simp] theorem asI_i (i : Int) : asI (.int i) = some i := rfl
@[simp] theorem oSome_run (f : Ev → M D) : oSome f ρ s = rb (f ρ s) fun x s1 => rb (ofO (asI x) s1) fun i s2 => some (some i, s2) := by
  simp only [oSome, bnd_run]
  congr 1
  funext x s1
  cases x <;> rfl
def slD (x : D) (l h : Option Int) : Option D := match x with
  | .list xs => some (.list (cutD xs l h))
  | .tuple xs => some (.tuple (cutD xs l h))
  | _ => none
@[simp] theorem slD_l (xs : List D) (l h : Option Int) : slD (.list xs) l h = some (.list (cutD xs l h)) := rfl
@[simp] theorem slD_t (xs : List D) (l h : Option Int) : slD (.tuple xs) l h = some (.tuple (cutD xs l h)) := rfl
@[simp] theorem eSl_run (f : Ev → M D) (l h : Ev → M (Option Int)) : eSl f l h ρ s = rb (f ρ s) fun x s1 => rb (l ρ s1) fun i s2 => rb (h ρ s2) fun j s3 => ofO (slD x i j) s3 := by
  simp only [eSl, bnd_run]
  congr 1
  funext x s1
  congr 1
  funext i s2
  congr 1
  funext j s3
  cases x <;> rfl
/- statements -/
@[simp] theorem sNil_run : sNil ρ s = some (.nx ρ, s) := rfl
@[simp] theorem sErr_run : sErr ρ s = none := rfl
def onx (g : Ev → Ss → Option (Out × Ss)) (o : Out) (s : Ss) : Option (Out × Ss) := match o with
  | .nx ρ => g ρ s
  | .rt x => some (.rt x, s)
@[simp] theorem onx_nx (g : Ev → Ss → Option (Out × Ss)) : onx g (.nx ρ) s = g ρ s := rfl
@[simp] theorem onx_rt (g : Ev → Ss → Option (Out × Ss)) (x : D) : onx g (.rt x) s = some (.rt x, s) := rfl
@[simp] theorem sSeq_run (f g : Ev → M Out) : sSeq f g ρ s = rb (f ρ s) (onx g) := by
  simp only [sSeq, bnd_run]
  congr 1
  funext o s1
  cases o <;> rfl
@[simp] theorem sRet_run (f : Ev → M D) : sRet f ρ s = rb (f ρ s) fun x s1 => some (.rt x, s1) := rfl
@[simp] theorem sIf_run (g : Ev → M Bool) (f1 f2 : Ev → M Out) : sIf g f1 f2 ρ s = rb (g ρ s) fun k s1 => if k = true then f1 ρ s1 else f2 ρ s1 := by
  unfold sIf
  simp only [bnd_run]
  congr 1
  funext k s1
  exact ite_run _ _ _ _
@[simp] theorem sSet_run (i : Nat) (f : Ev → M D) : sSet i f ρ s = rb (f ρ s) fun x s1 => some (.nx (ρ.set i (some (.d x))), s1) := rfl
@[simp] theorem sOwn_run (i : Nat) (f : Ev → M D) : sOwn i f ρ s = rb (f ρ s) fun x s1 => some (.nx (ρ.set i (some (.own x))), s1) := rfl
@[simp] theorem sTup_run (tgs : List Tg) (f : Ev → M (List Vl)) : sTup tgs f ρ s = rb (f ρ s) fun as s1 => rb (ofO (asgT tgs as ρ) s1) fun ρ' s2 => if as.length ≤ LIM then some (.nx ρ', s2) else none := by
  unfold sTup
  rw [bnd_run]
  congr 1
  funext k s1
  rw [bnd_run]
  congr 1
  funext k s2
  exact ite_run _ _ _ _
@[simp] theorem sAsg_run (oi : Option Nat) (tgs : List Tg) (f : Ev → M D) : sAsg oi tgs f ρ s = rb (f ρ s) fun x s1 => rb (ofO (asg1 oi tgs x ρ) s1) fun ρ' s2 => some (.nx ρ', s2) := rfl
@[simp] theorem sFor_run (oi : Option Nat) (tgs : List Tg) (fi : Ev → M (List D)) (b : Ev → M Out) : sFor oi tgs fi b ρ s = rb (fi ρ s) fun ds s1 => forL (asg1 oi tgs) b ds ρ s1 := rfl
@[simp] theorem forL_nil (a : D → Ev → Option Ev) (b : Ev → M Out) : forL a b [] ρ s = some (.nx ρ, s) := rfl
theorem forL_cons (a : D → Ev → Option Ev) (b : Ev → M Out) (x : D) (xs : List D) : forL a b (x :: xs) ρ s = rb (ofO (a x ρ) s) fun ρ1 s1 => rb (b ρ1 s1) (onx (forL a b xs)) := by
  simp only [forL, bnd_run]
  congr 1
  funext ρ1 s1
  congr 1
  funext o s2
  cases o <;> rfl
@[simp] theorem iSeq_run (f : Ev → M D) : iSeq f ρ s = rb (f ρ s) fun x s1 => ofO (seqD x) s1 := rfl
@[simp] theorem iRg1_run (f : Ev → M D) : iRg1 f ρ s = rb (f ρ s) fun x s1 => ofO (rng1 x) s1 := rfl
@[simp] theorem iRg2_run (f g : Ev → M D) : iRg2 f g ρ s = rb (f ρ s) fun x s1 => rb (g ρ s1) fun y s2 => ofO (rng2 x y) s2 := rfl
@[simp] theorem iRg3_run (f g h : Ev → M D) : iRg3 f g h ρ s = rb (f ρ s) fun x s1 => rb (g ρ s1) fun y s2 => rb (h ρ s2) fun z s3 => ofO (rng3 x y z) s3 := rfl
@[simp] theorem sApp_run (i : Nat) (f : Ev → M D) : sApp i f ρ s = rb (f ρ s) fun x s1 => rb (ofO (appF ρ i x ρ[i]?) s1) fun ρ' s2 => some (.nx ρ', s2) := rfl
@[simp] theorem sExt_run (i : Nat) (f : Ev → M D) : sExt i f ρ s = rb (f ρ s) fun x s1 => rb (ofO (extF ρ i x ρ[i]?) s1) fun ρ' s2 => some (.nx ρ', s2) := rfl
theorem eLc_run (vs : List Nat) (oi : Option Nat) (tgs : List Tg) (fi : Ev → M (List D)) (g : Ev → M Bool) (fe : Ev → M D) : eLc vs oi tgs fi g fe ρ s = rb (fi ρ s) fun ds s1 =>
  if (vs.all (fun i => !isOwn ρ i) && decide (ds.length ≤ LIM)) = true then rb (compL (asg1 oi tgs) g fe ds (wipeE ρ vs) s1) fun xs s2 => some (.list xs, s2) else none := by
  unfold eLc
  rw [bnd_run]
  congr 1
  funext ds s1
  exact ite_run _ _ _ _
@[simp] theorem compL_nil (a : D → Ev → Option Ev) (g : Ev → M Bool) (fe : Ev → M D) : compL a g fe [] ρ s = some ([], s) := rfl
theorem compL_cons (a : D → Ev → Option Ev) (g : Ev → M Bool) (fe : Ev → M D) (x : D) (xs : List D) : compL a g fe (x :: xs) ρ s = rb (ofO (a x ρ) s) fun ρ1 s1 => rb (g ρ1 s1) fun k s2 => if k = true then rb (fe ρ1 s2) fun y s3 => rb (compL a g fe xs ρ s3) fun ys s4 => some (y :: ys, s4) else compL a g fe xs ρ s2 := by
  rw [compL, bnd_run]
  congr 1
  funext ρ1 s1
  rw [bnd_run]
  congr 1
  funext k s2
  exact ite_run _ _ _ _
/-- a comprehension whose item is told by h, which draws nothing -/
theorem comp_map {a : D → Ev → Option Ev} {fe : Ev → M D} {h : D → D} {s : Ss} : ∀ {ds : List D}, (∀ x ∈ ds, ∃ ρ1, a x ρ = some ρ1 ∧ fe ρ1 s = some (h x, s)) → compL a bT fe ds ρ s = some (ds.map h, s)
  | [], _ => rfl
  | x :: xs, H => by
    obtain ⟨ρ1, e1, e2⟩ := H x List.mem_cons_self
    have ih := comp_map (ds := xs) fun y hy => H y (List.mem_cons_of_mem _ hy)
    rw [compL_cons, e1]
    simp only [ofO_run_some, rb_some, bT_run, if_true, e2, ih, List.map_cons]
theorem comp_filter {a : D → Ev → Option Ev} {g : Ev → M Bool} {fe : Ev → M D} {p : D → Bool} {h : D → D} {s : Ss} : ∀ {ds : List D}, (∀ x ∈ ds, ∃ ρ1, a x ρ = some ρ1 ∧ g ρ1 s = some (p x, s) ∧ fe ρ1 s = some (h x, s)) → compL a g fe ds ρ s = some ((ds.filter p).map h, s)
  | [], _ => rfl
  | x :: xs, H => by
    obtain ⟨ρ1, e1, e2, e3⟩ := H x List.mem_cons_self
    have ih := comp_filter (ds := xs) fun y hy => H y (List.mem_cons_of_mem _ hy)
    rw [compL_cons, e1]
    simp only [ofO_run_some, rb_some, e2, e3, ih]
    cases q : p x with
    | true => simp [List.filter_cons, q]
    | false => simp [List.filter_cons, q]
/-- a while's turn -/
theorem sWhile_run (g : Ev → M Bool) (b : Ev → M Out) : sWhile g b ρ s = rb (g ρ s) fun k s1 => if k = true then rb (b ρ s1) (onx (sWhile g b)) else some (.nx ρ, s1) := by
  rw [sWhile_eq]
  simp only [bnd_run, ite_run, ret_run]
  congr 1
  funext k s1
  split
  · congr 1
    funext o s2
    cases o <;> rfl
  · rfl
@[simp] theorem asg1_i (i : Nat) (tgs : List Tg) (x : D) : asg1 (some i) tgs x ρ = some (ρ.set i (some (.d x))) := rfl
@[simp] theorem asg1_t (tgs : List Tg) (xs : List D) : asg1 none tgs (.tuple xs) ρ = asgT tgs (xs.map Vl.d) ρ := rfl
@[simp] theorem asgT_nil : asgT [] [] ρ = some ρ := rfl
@[simp] theorem asgT_d (i : Nat) (ts : List Tg) (x : D) (as : List Vl) : asgT (.nm i :: ts) (.d x :: as) ρ = asgT ts as (ρ.set i (some (.d x))) := rfl
@[simp] theorem asgT_o (i : Nat) (ts : List Tg) (x : D) (as : List Vl) : asgT (.nm i :: ts) (.own x :: as) ρ = asgT ts as (ρ.set i (some (.own x))) := rfl
@[simp] theorem asgT_t (is : List Nat) (ts : List Tg) (xs : List D) (as : List Vl) : asgT (.tp is :: ts) (.d (.tuple xs) :: as) ρ = (asgN is xs ρ).bind fun ρ' => asgT ts as ρ' := rfl
@[simp] theorem asgN_nil : asgN [] [] ρ = some ρ := rfl
@[simp] theorem asgN_cons (i : Nat) (is : List Nat) (x : D) (xs : List D) : asgN (i :: is) (x :: xs) ρ = asgN is xs (ρ.set i (some (.d x))) := rfl
theorem fnV_run (n : Nat) (b : Ev → M Out) (as : List Vl) : fnV n b as s = rb (b (as.map some ++ List.replicate (n - as.length) none) s) fun o s1 => match o with
  | .rt x => some (x, s1)
  | .nx _ => some (.none, s1) := by
  simp only [fnV, bnd_run]
  congr 1
  funext o s1
  cases o <;> rfl
/- data -/
@[simp] theorem lim_num : LIM = 16000000 := rfl
@[simp] theorem dispD_3 (as : List Vl) (ds : List D) : dispD (as) = (datsV as).bind fun ds => if ds.length ≤ LIM then some ds else none := rfl
@[simp] theorem add_i (i j : Int) : addD (.int i) (.int j) = some (.int (i + j)) := rfl
@[simp] theorem sub_i (i j : Int) : subI (.int i) (.int j) = some (.int (i - j)) := rfl
@[simp] theorem mul_i (i j : Int) : mulD (.int i) (.int j) = if mulOk i j = true then some (.int (i * j)) else none := rfl
@[simp] theorem fdiv_i (i j : Int) : fdivI (.int i) (.int j) = if divOk j = true then some (.int (i.fdiv j)) else none := rfl
@[simp] theorem mod_i (i j : Int) : modI (.int i) (.int j) = if j = 0 then none else some (.int (i.fmod j)) := rfl
@[simp] theorem neg_i (i : Int) : negI (.int i) = some (.int (-i)) := rfl
@[simp] theorem int_i (i : Int) : intD (.int i) = some (.int i) := rfl
@[simp] theorem abs_i (i : Int) : absI (.int i) = some (.int (if i < 0 then -i else i)) := rfl
@[simp] theorem cmp_i (p : Int → Int → Bool) (i j : Int) : cmpI p (.int i) (.int j) = some (.bool (p i j)) := rfl
@[simp] theorem max2_i (i j : Int) : max2I (.int i) (.int j) = some (.int (if j > i then j else i)) := rfl
@[simp] theorem min2_i (i j : Int) : min2I (.int i) (.int j) = some (.int (if j < i then j else i)) := rfl
@[simp] theorem gcd_i (i j : Int) : gcdI (.int i) (.int j) = some (.int (Int.gcd i j)) := rfl
@[simp] theorem len_l (xs : List D) : lenD (.list xs) = some (.int xs.length) := rfl
@[simp] theorem len_t (xs : List D) : lenD (.tuple xs) = some (.int xs.length) := rfl
@[simp] theorem tup_l (xs : List D) : tupD (.list xs) = some (.tuple xs) := rfl
@[simp] theorem tup_t (xs : List D) : tupD (.tuple xs) = some (.tuple xs) := rfl
@[simp] theorem lst_l (xs : List D) : lstD (.list xs) = some (.list xs) := rfl
@[simp] theorem lst_t (xs : List D) : lstD (.tuple xs) = some (.list xs) := rfl
@[simp] theorem rev_l (xs : List D) : revD (.list xs) = some (.list xs.reverse) := rfl
@[simp] theorem rev_t (xs : List D) : revD (.tuple xs) = some (.tuple xs.reverse) := rfl
@[simp] theorem seq_l (xs : List D) : seqD (.list xs) = some xs := rfl
@[simp] theorem seq_t (xs : List D) : seqD (.tuple xs) = some xs := rfl
@[simp] theorem items_l (xs : List D) : itemsD (.list xs) = some xs := rfl
@[simp] theorem items_t (xs : List D) : itemsD (.tuple xs) = some xs := rfl
@[simp] theorem add_t (xs ys : List D) : addD (.tuple xs) (.tuple ys) = if xs.length + ys.length ≤ LIM then some (.tuple (xs ++ ys)) else none := rfl
@[simp] theorem add_l (xs ys : List D) : addD (.list xs) (.list ys) = if xs.length + ys.length ≤ LIM then some (.list (xs ++ ys)) else none := rfl
theorem mulOk_l {i : Int} (j : Int) (h : -(2 ^ 64) < i) (h2 : i < 2 ^ 64) : mulOk i j = true := by
  unfold mulOk small64
  rw [decide_eq_true (p := i.natAbs < 2 ^ 64) (by omega)]
  simp
theorem mulOk_r (i : Int) {j : Int} (h : -(2 ^ 64) < j) (h2 : j < 2 ^ 64) : mulOk i j = true := by
  unfold mulOk small64
  rw [decide_eq_true (p := j.natAbs < 2 ^ 64) (by omega)]
  simp
theorem divOk_s {j : Int} (h0 : j ≠ 0) (h : -(2 ^ 64) < j) (h2 : j < 2 ^ 64) : divOk j = true := by
  unfold divOk
  have : j.natAbs.log2 < 9000 := by
    have h3 : j.natAbs < 2 ^ 64 := by omega
    by_cases h4 : j.natAbs = 0
    · rw [h4]; decide
    · have := (Nat.log2_lt h4).mpr h3
      omega
  simp [h0, this]
end
end Sm

set_option Elab.async false
set_option linter.all false
set_option maxRecDepth 100000
set_option maxHeartbeats 4000000
namespace Sm
open PySem PySem.Spec L2

/-! ### what repr tells, measured -/
mutual
def wtD : D → Nat
  | .none => 4
  | .bool _ => 5
  | .int _ => 21
  | .str x => 10 * x.length + 2
  | .list xs => 4 + wtA xs
  | .tuple xs => 4 + wtA xs
  | .dict _ => 2
def wtA : List D → Nat
  | [] => 0
  | x :: xs => wtD x + 2 + wtA xs
end
mutual
def okS : D → Bool
  | .none => true
  | .bool _ => true
  | .int i => decide (i.natAbs < 10 ^ 20)
  | .str x => x.cps.toList.all fun c => decide (c < 16 ^ 8)
  | .list xs => okA xs
  | .tuple xs => okA xs
  | .dict kvs => kvs.isEmpty
def okA : List D → Bool
  | [] => true
  | x :: xs => okS x && okA xs
end
theorem join_len (ts : List Str) : (Str.join ", " ts).length ≤ piled ts := by
  by_cases h : ts = []
  · subst h; exact Nat.le_refl _
  · have := join_length_add ts h
    omega
theorem listText_len (ts : List Str) : (listText ts).length ≤ 2 + piled ts := by
  unfold listText
  rw [strLen_append]
  have e1 : ((("]" : String) : Str)).length = 1 := rfl
  rw [e1]
  cases ts with
  | nil => exact Nat.le_refl _
  | cons t r =>
    show (textFrom 1 (("[" : Str) ++ (if (0 : Nat) > 0 then ", " else "" : String) ++ t) r).length + 1 ≤ _
    rw [textFrom_length_pos _ _ _ (by decide), strLen_append, piled_cons]
    have e2 : ((("[" : String) : Str) ++ (if (0 : Nat) > 0 then ", " else "" : String)).length = 1 := rfl
    rw [e2]
    omega
theorem tupleText_len (ts : List Str) : (tupleText ts).length ≤ 3 + piled ts := by
  unfold tupleText
  rw [strLen_append, strLen_append]
  have e1 : ((("(" : String) : Str)).length = 1 := rfl
  have e3 : (((if ts.length == 1 then ",)" else ")" : String) : Str)).length ≤ 2 := by split <;> decide
  have := join_len ts
  rw [e1]
  omega
theorem int_len {i : Int} (h : i.natAbs < 10 ^ 20) : ((toString i : String) : Str).length ≤ 21 := by
  rw [ofString_length]
  exact int_text_length_le10 (by decide) h
mutual
theorem shown_len : ∀ (x : D), okS x = true → x.shown.length ≤ wtD x
  | .none, _ => by simp [PyData.shown, wtD]; decide
  | .bool b, _ => by cases b <;> (simp [PyData.shown, wtD]; decide)
  | .int i, h => int_len (of_decide_eq_true h)
  | .str x, h => by
    simp only [PyData.shown, wtD]
    exact PySem.StrLaws.reprText_len x fun c hc => of_decide_eq_true (List.all_eq_true.mp h c hc)
  | .list xs, h => by
    simp only [PyData.shown, wtD]
    have := shownA_len xs (by simpa [okS] using h)
    have := listText_len (PyData.shownAll xs)
    omega
  | .tuple xs, h => by
    simp only [PyData.shown, wtD]
    have := shownA_len xs (by simpa [okS] using h)
    have := tupleText_len (PyData.shownAll xs)
    omega
  | .dict kvs, h => by
    cases kvs with
    | nil => simp [PyData.shown, PyData.shownKv, wtD]; decide
    | cons a b => simp [okS] at h
theorem shownA_len : ∀ (xs : List D), okA xs = true → piled (PyData.shownAll xs) ≤ wtA xs
  | [], _ => by simp [PyData.shownAll, piled, wtA]
  | x :: xs, h => by
    simp only [okA, Bool.and_eq_true] at h
    have := shown_len x h.1
    have := shownA_len xs h.2
    simp only [PyData.shownAll, piled_cons, wtA]
    omega
end
theorem log_small {n : Nat} (h : n < 10 ^ 20) : n.log2 < 1920 := by
  by_cases h0 : n = 0
  · subst h0; decide
  · have := (Nat.log2_lt (k := 70) h0).mpr (Nat.lt_trans h (by decide))
    omega
mutual
theorem okS_showable : ∀ (x : D), okS x = true → x.showable = true
  | .none, _ => by simp [PyData.showable]
  | .bool b, _ => by simp [PyData.showable]
  | .int i, h => by
    simp only [PyData.showable]
    exact decide_eq_true (log_small (of_decide_eq_true h))
  | .str x, _ => by simp [PyData.showable]
  | .list xs, h => by
    simp only [PyData.showable]
    exact okA_showable xs (by simpa [okS] using h)
  | .tuple xs, h => by
    simp only [PyData.showable]
    exact okA_showable xs (by simpa [okS] using h)
  | .dict kvs, h => by
    cases kvs with
    | nil => simp [PyData.showable, PyData.showableKv]
    | cons a b => simp [okS] at h
theorem okA_showable : ∀ (xs : List D), okA xs = true → PyData.showableAll xs = true
  | [], _ => by simp [PyData.showableAll]
  | x :: xs, h => by
    simp only [okA, Bool.and_eq_true] at h
    simp only [PyData.showableAll, Bool.and_eq_true]
    exact ⟨okS_showable x h.1, okA_showable xs h.2⟩
end
theorem reprD_ok {x : D} (h : okS x = true) (h2 : x.hasDict = false ∨ noLst x = true) (h3 : x.depth ≤ 60) (h4 : wtD x ≤ 16000000) : reprD x = some (.str x.shown) := by
  have e : reprOk x = true := by
    unfold reprOk
    rw [okS_showable x h, decide_eq_true h3, decide_eq_true (show x.shown.length ≤ LIM from Nat.le_trans (shown_len x h) h4)]
    rcases h2 with h2 | h2 <;> simp [h2]
  unfold reprD
  rw [if_pos e]
/-- numbers as data -/
def numD (ns : List Int) : List D := ns.map PyData.int
@[simp] theorem numD_nil : numD [] = [] := rfl
@[simp] theorem numD_cons (n : Int) (ns : List Int) : numD (n :: ns) = .int n :: numD ns := rfl
theorem wtA_ints (ns : List Int) : wtA (numD ns) = 23 * ns.length := by
  induction ns with
  | nil => rfl
  | cons n ns ih => simp only [numD_cons, wtA, wtD, List.length_cons, ih]; omega
theorem okA_ints {ns : List Int} (h : ∀ n ∈ ns, n.natAbs < 10 ^ 20) : okA (numD ns) = true := by
  induction ns with
  | nil => rfl
  | cons n ns ih =>
    simp only [numD_cons, okA, okS, Bool.and_eq_true, decide_eq_true_eq]
    exact ⟨h n List.mem_cons_self, ih fun m hm => h m (List.mem_cons_of_mem _ hm)⟩
theorem depA_ints (ns : List Int) : PyData.depthAll (numD ns) ≤ 1 := by
  induction ns with
  | nil => simp [PyData.depthAll]
  | cons n ns ih => simp only [numD_cons, PyData.depthAll, PyData.depth]; omega
theorem hasA_ints (ns : List Int) : PyData.hasDictAll (numD ns) = false := by
  induction ns with
  | nil => simp [PyData.hasDictAll]
  | cons n ns ih => simp only [numD_cons, PyData.hasDictAll, PyData.hasDict, Bool.false_or]; exact ih
@[simp] theorem ne_same (t : Str) : neB (.str t) (.str t) = some (.bool false) := by simp [neB, eqD]
theorem intsD_ints (ns : List Int) : intsD (numD ns) = some ns := by
  induction ns with
  | nil => rfl
  | cons n ns ih => simp only [numD_cons, intsD, ih, Option.map_some]
end Sm

set_option Elab.async false
set_option linter.all false
set_option maxRecDepth 100000
set_option maxHeartbeats 4000000
namespace Sm
open PySem PySem.Spec L2

/-! ### more of data -/
theorem numD_app (a b : List Int) : numD (a ++ b) = numD a ++ numD b := List.map_append
@[simp] theorem numD_len (a : List Int) : (numD a).length = a.length := List.length_map _
theorem numD_rev (a : List Int) : (numD a).reverse = numD a.reverse := (List.map_reverse ..).symm
theorem numD_get (a : List Int) (i : Nat) : (numD a)[i]? = a[i]?.map PyData.int := List.getElem?_map ..
theorem numD_mem {a : List Int} {x : D} (h : x ∈ numD a) : ∃ i, i ∈ a ∧ .int i = x := List.mem_map.mp h
theorem numD_inj {a b : List Int} (h : numD a = numD b) : a = b := by
  induction a generalizing b with
  | nil => cases b with
    | nil => rfl
    | cons x b => cases h
  | cons y a ih => cases b with
    | nil => cases h
    | cons x b =>
      simp only [numD_cons, List.cons.injEq, PyData.int.injEq] at h
      rw [h.1, ih h.2]
theorem fdivP (a : Int) {b : Int} (h : 0 < b) : a.fdiv b = a / b := Int.fdiv_eq_ediv_of_nonneg _ (Int.le_of_lt h)
theorem fmodP (a : Int) {b : Int} (h : 0 < b) : a.fmod b = a % b := Int.fmod_eq_emod_of_nonneg _ (Int.le_of_lt h)
theorem divOkP {q : Int} (h : 0 < q) (h2 : q < 2 ^ 64) : divOk q = true := divOk_s (by omega) (by omega) (by omega)
/- places -/
theorem atI_nat {α : Type} {xs : List α} {i : Nat} {x : α} (h : xs[i]? = some x) : atI xs (i : Int) = some x := by
  have hl := (List.getElem?_eq_some_iff.mp h).1
  unfold atI ixN
  rw [if_pos (by omega), if_pos (by omega)]
  simpa using h
theorem atI_int {α : Type} {xs : List α} {i : Int} {x : α} (h0 : 0 ≤ i) (h : xs[i.toNat]? = some x) : atI xs i = some x := by
  have := atI_nat h
  rwa [Int.toNat_of_nonneg h0] at this
theorem atI_last {α : Type} (xs : List α) (x : α) : atI (xs ++ [x]) (-1) = some x := by
  unfold atI ixN
  have hl : (xs ++ [x]).length = xs.length + 1 := by simp
  rw [if_neg (by omega), if_pos (by rw [hl]; omega), hl]
  have e : ((-1 : Int) + ((xs.length + 1 : Nat) : Int)).toNat = xs.length := by omega
  show (xs ++ [x])[((-1 : Int) + ((xs.length + 1 : Nat) : Int)).toNat]? = some x
  rw [e]
  simp
theorem atI_num {ns : List Int} {i n : Int} (h : atI ns i = some n) : atI (numD ns) i = some (.int n) := by
  unfold atI at h ⊢
  rw [numD_len]
  cases q : ixN ns.length i with
  | none => rw [q] at h; cases h
  | some j =>
    rw [q] at h
    show (numD ns)[j]? = some (.int n)
    rw [numD_get]
    have h : ns[j]? = some n := h
    rw [h]
    rfl
theorem cut_init (xs : List D) : cutD xs none (some (-1)) = xs.dropLast := by
  unfold cutD
  have e1 : HT.sIx xs.length 0 none = 0 := rfl
  have e2 : HT.sIx xs.length xs.length (some (-1)) = xs.length - 1 := by
    show ((-1 : Int) + (xs.length : Int)).toNat = _
    omega
  rw [e1, e2, List.drop_zero, Nat.sub_zero, List.dropLast_eq_take]
theorem cut_from (xs : List D) (i : Nat) : cutD xs (some (i : Int)) none = xs.drop i := by
  unfold cutD
  have e1 : HT.sIx xs.length 0 (some (i : Int)) = min i xs.length := HT.sIx_nat ..
  have e2 : HT.sIx xs.length xs.length none = xs.length := rfl
  rw [e1, e2]
  by_cases h : i ≤ xs.length
  · rw [Nat.min_eq_left h, List.take_of_length_le (by simp)]
  · rw [Nat.min_eq_right (by omega), List.drop_of_length_le (Nat.le_refl _), List.drop_of_length_le (by omega)]
    simp
theorem cut_to (xs : List D) (i : Nat) : cutD xs none (some (i : Int)) = xs.take i := by
  unfold cutD
  have e1 : HT.sIx xs.length xs.length (some (i : Int)) = min i xs.length := HT.sIx_nat ..
  have e2 : HT.sIx xs.length 0 none = 0 := rfl
  rw [e1, e2, List.drop_zero, Nat.sub_zero]
  by_cases h : i ≤ xs.length
  · rw [Nat.min_eq_left h]
  · rw [Nat.min_eq_right (by omega), List.take_of_length_le (Nat.le_refl _), List.take_of_length_le (by omega)]
/- equality -/
@[simp] theorem eq_int (a b : Int) : eqB (.int a) (.int b) = some (.bool (a == b)) := rfl
@[simp] theorem ne_int (a b : Int) : neB (.int a) (.int b) = some (.bool (!(a == b))) := rfl
@[simp] theorem eq_str (a b : Str) : eqB (.str a) (.str b) = some (.bool (a == b)) := rfl
theorem eq_self {x : D} (h : SeqAt.shaped x = true) : eqB x x = some (.bool true) := by
  unfold eqB eqD
  split
  · simp
  · rw [h]
    simp [PySem.SeqAt.eqv_refl x (SeqAt.canLay_of_shaped h)]
theorem ne_self {x : D} (h : SeqAt.shaped x = true) : neB x x = some (.bool false) := by
  unfold neB eqD
  split
  · simp
  · rw [h]
    simp [PySem.SeqAt.eqv_refl x (SeqAt.canLay_of_shaped h)]
theorem lay_num (ns : List Int) : PyData.canLayAll0 (numD ns) = true := by
  induction ns with
  | nil => simp [PyData.canLayAll0]
  | cons n ns ih => simp only [numD_cons, PyData.canLayAll0, PyData.canLay0, Bool.true_and]; exact ih
theorem shaped_numT (ns : List Int) : SeqAt.shaped (.tuple (numD ns)) = true := by
  have := depA_ints ns
  show (PyData.canLay0 (.tuple (numD ns)) && decide (PyData.depth (.tuple (numD ns)) ≤ 64)) = true
  rw [show PyData.canLay0 (.tuple (numD ns)) = true from by simp only [PyData.canLay0]; exact lay_num ns, Bool.true_and]
  exact decide_eq_true (by simp only [PyData.depth]; omega)
theorem shaped_numL (ns : List Int) : SeqAt.shaped (.list (numD ns)) = true := by
  have := depA_ints ns
  show (PyData.canLay0 (.list (numD ns)) && decide (PyData.depth (.list (numD ns)) ≤ 64)) = true
  rw [show PyData.canLay0 (.list (numD ns)) = true from by simp only [PyData.canLay0]; exact lay_num ns, Bool.true_and]
  exact decide_eq_true (by simp only [PyData.depth]; omega)
theorem eqvA_num : ∀ (a b : List Int), PyData.eqvAll (numD a) (numD b) = decide (a = b)
  | [], [] => by simp [PyData.eqvAll]
  | [], b :: bs => by simp [PyData.eqvAll]
  | a :: as, [] => by simp [PyData.eqvAll]
  | a :: as, b :: bs => by
    simp only [numD_cons, PyData.eqvAll, PyData.eqv, eqvA_num as bs, List.cons.injEq]
    rw [Bool.decide_and, Bool.beq_eq_decide_eq]
theorem eq_numT (a b : List Int) : eqB (.tuple (numD a)) (.tuple (numD b)) = some (.bool (decide (a = b))) := by
  show (if (SeqAt.shaped (.tuple (numD a)) && SeqAt.shaped (.tuple (numD b))) = true then some (PyData.eqv (.tuple (numD a)) (.tuple (numD b))) else none).map PyData.bool = _
  rw [shaped_numT, shaped_numT]
  simp only [Bool.and_self, if_true, PyData.eqv, eqvA_num, Option.map_some]
theorem ne_numT (a b : List Int) : neB (.tuple (numD a)) (.tuple (numD b)) = some (.bool (!decide (a = b))) := by
  show ((if (SeqAt.shaped (.tuple (numD a)) && SeqAt.shaped (.tuple (numD b))) = true then some (PyData.eqv (.tuple (numD a)) (.tuple (numD b))) else none).map fun b => PyData.bool (!b)) = _
  rw [shaped_numT, shaped_numT]
  simp only [Bool.and_self, if_true, PyData.eqv, eqvA_num, Option.map_some]
theorem sum_t (ns : List Int) : sumI (.tuple (numD ns)) = some (.int ns.sum) := by simp [sumI, itemsI, intsD_ints]
theorem sum_l (ns : List Int) : sumI (.list (numD ns)) = some (.int ns.sum) := by simp [sumI, itemsI, intsD_ints]
theorem min_t (ns : List Int) : minI (.tuple (numD ns)) = ns.min?.map PyData.int := by simp [minI, itemsI, intsD_ints]
theorem max_t (ns : List Int) : maxI (.tuple (numD ns)) = ns.max?.map PyData.int := by simp [maxI, itemsI, intsD_ints]
theorem min_l (ns : List Int) : minI (.list (numD ns)) = ns.min?.map PyData.int := by simp [minI, itemsI, intsD_ints]
theorem max_l (ns : List Int) : maxI (.list (numD ns)) = ns.max?.map PyData.int := by simp [maxI, itemsI, intsD_ints]
/- ranges -/
theorem inR_nat {n : Nat} (h : n < 2 ^ 62) : inR (n : Int) = true := by
  unfold inR
  exact decide_eq_true (by omega)
theorem rng3_ok {i j c : Int} (h1 : c ≠ 0) (h2 : c.natAbs < 1073741824) (h3 : i.natAbs < 2 ^ 61) (h4 : j.natAbs < 2 ^ 61) : rng3 (.int i) (.int j) (.int c) = some (rng3L i j c) := by
  have e : r3Ok i j c = true := by simp only [r3Ok, Bool.and_eq_true, decide_eq_true_eq]; exact ⟨h1, h2, h3, h4⟩
  unfold rng3
  simp only [e, if_true]
theorem rng1_nat (n : Nat) (h : n < 2 ^ 62) : rng1 (.int n) = some ((List.range n).map fun (k : Nat) => PyData.int k) := by
  have e : rng1 (.int n) = some (rngD 0 n) := by
    unfold rng1
    simp only [inR_nat h, if_true]
  rw [e]
  simp [rngD]
theorem rng2_nat (i n : Nat) (h : i + n < 2 ^ 62) : rng2 (.int i) (.int (i + n : Nat)) = some ((List.range n).map fun (k : Nat) => PyData.int (i + k : Nat)) := by
  have e0 : rng2 (.int i) (.int (i + n : Nat)) = some (rngD i (i + n : Nat)) := by
    unfold rng2
    simp only [inR_nat (n := i) (by omega), inR_nat (n := i + n) (by omega), Bool.and_self, if_true]
  have e : (((i + n : Nat) : Int) - (i : Int)).toNat = n := by omega
  rw [e0]
  unfold rngD
  rw [e]
  simp
/-- a for whose turns keep a word -/
theorem forL_inv {a : D → Ev → Option Ev} {b : Ev → M Out} (W : Ev → Ss → Prop) : ∀ (xs : List D) (ρ : Ev) (s : Ss), W ρ s →
    (∀ x ∈ xs, ∀ ρ s, W ρ s → ∃ ρ1 ρ2 s2, a x ρ = some ρ1 ∧ b ρ1 s = some (.nx ρ2, s2) ∧ W ρ2 s2) → ∃ ρ' s', forL a b xs ρ s = some (.nx ρ', s') ∧ W ρ' s'
  | [], ρ, s, h, _ => ⟨ρ, s, rfl, h⟩
  | x :: xs, ρ, s, h, H => by
    obtain ⟨ρ1, ρ2, s2, e1, e2, h2⟩ := H x List.mem_cons_self ρ s h
    obtain ⟨ρ', s', e3, h3⟩ := forL_inv W xs ρ2 s2 h2 fun y hy => H y (List.mem_cons_of_mem _ hy)
    refine ⟨ρ', s', ?_, h3⟩
    rw [forL_cons, e1]
    simp only [ofO_run_some, rb_some, e2, onx_nx]
    exact e3
/-- a comprehension that may draw -/
theorem comp_draw {a : D → Ev → Option Ev} {fe : Ev → M D} {ρ : Ev} (W : D → Prop) : ∀ (xs : List D) (s : Ss), (∀ x ∈ xs, ∀ s, ∃ ρ1 y s2, a x ρ = some ρ1 ∧ fe ρ1 s = some (y, s2) ∧ W y) →
    ∃ ys s', compL a bT fe xs ρ s = some (ys, s') ∧ ys.length = xs.length ∧ ∀ y ∈ ys, W y
  | [], s, _ => ⟨[], s, rfl, rfl, fun y hy => by cases hy⟩
  | x :: xs, s, H => by
    obtain ⟨ρ1, y, s2, e1, e2, h2⟩ := H x List.mem_cons_self s
    obtain ⟨ys, s', e3, hl, h3⟩ := comp_draw W xs s2 fun y hy => H y (List.mem_cons_of_mem _ hy)
    refine ⟨y :: ys, s', ?_, by simp [hl], fun z hz => ?_⟩
    · rw [compL_cons, e1]
      simp only [ofO_run_some, rb_some, bT_run, if_true, e2, e3]
    · rcases List.mem_cons.mp hz with rfl | hz
      · exact h2
      · exact h3 z hz
theorem nums_of : ∀ (ys : List D) (W : Int → Prop), (∀ y ∈ ys, ∃ i, y = .int i ∧ W i) → ∃ ns, ys = numD ns ∧ ∀ n ∈ ns, W n
  | [], W, _ => ⟨[], rfl, fun n hn => by cases hn⟩
  | y :: ys, W, h => by
    obtain ⟨i, e, hi⟩ := h y List.mem_cons_self
    obtain ⟨ns, e2, h2⟩ := nums_of ys W fun z hz => h z (List.mem_cons_of_mem _ hz)
    refine ⟨i :: ns, by rw [e, e2]; rfl, fun n hn => ?_⟩
    rcases List.mem_cons.mp hn with rfl | hn
    · exact hi
    · exact h2 n hn
theorem eLc_ev {vs : List Nat} {oi : Option Nat} {tgs : List Tg} {fi : Ev → M (List D)} {g : Ev → M Bool} {fe : Ev → M D} {ρ : Ev} {s s1 s2 : Ss} {ds xs : List D} (h : fi ρ s = some (ds, s1)) (h0 : (vs.all fun i => !isOwn ρ i) = true) (hl : ds.length ≤ 16000000)
    (hc : compL (asg1 oi tgs) g fe ds (wipeE ρ vs) s1 = some (xs, s2)) : eLc vs oi tgs fi g fe ρ s = some (.list xs, s2) := by
  rw [eLc_run, h, rb_some, if_pos (by rw [h0, Bool.true_and]; exact decide_eq_true hl), hc, rb_some]
end Sm

set_option Elab.async false
set_option linter.all false
set_option maxRecDepth 100000
set_option maxHeartbeats 4000000
namespace Lk93
open PySem PySem.Spec L2 Sm
def top (i : Nat) : Stmt := PySem.Challenge.pw_mediantrows_k93_whole_chains_with_less.main.body.getD i (.Pass ⟨0, 0, 0, 0⟩)
-- generated by gen.py from k93
abbrev blts : List Str := ["abs", "int", "len", "min", "range", "repr", "sum", "tuple"]
abbrev S_l_open_cells : Stmt := top 21
abbrev S_l_pick : Stmt := top 22
abbrev S_l_common : Stmt := top 23
abbrev S_l_bottom : Stmt := top 24
abbrev S_l_less : Stmt := top 25
abbrev S_less_chain : Stmt := top 15
abbrev S_down_step : Stmt := top 5
abbrev S_near_step : Stmt := top 7
abbrev S_up_step : Stmt := top 6
abbrev S_one_step : Stmt := top 8
abbrev S_euclid_steps : Stmt := top 9
abbrev S_count_steps : Stmt := top 10
abbrev S_less_value : Stmt := top 16
abbrev S_odd_chain : Stmt := top 12
abbrev S_up_numbers : Stmt := top 13
abbrev S_less_by_chain : Stmt := top 19
abbrev S_rest_chain : Stmt := top 18
abbrev S_turned_less : Stmt := top 17
abbrev S_law : Stmt := top 26

/-! _law_pick: 0 source, 1 most, 2 cells, 3 others, 4 lap, 5 stirred -/
noncomputable def b_l_pick : Ev → M Out :=
  (sSeq (sIf (bV (eBin ltI (eVar 1) (eC (.int 2)))) (sRet (eC (.int 0))) sNil)
    (sSeq (sPops 0 2) (sSeq (sSet 3 (eSg 0 .left))
    (sSeq (sIf (bV (eBin gtI (eVar 3) (eC (.int 1)))) (sSeq (sSp 0 .left (eBin fdivI (eVar 3) (eVar 1)))
    (sRet (eBin modI (eUn intD (eVar 3)) (eVar 1)))) sNil)
    (sSeq (sSp 0 .turn (eBin addD (eSg 0 .turn) (eC (.int 1))))
    (sSeq (sSet 4 (eSg 0 .turn))
    (sSeq (sSet 5 (eBin modI (eUn intD (eBin addD (eSg 0 .mixed) (eBin mulD (eVar 4) (eC (.int 104729))))) (eC (.int 998244353))))
    (sSeq (sSet 5 (eBin modI (eUn intD (eBin addD (eBin mulD (eVar 5) (eVar 5)) (eBin mulD (eVar 4) (eC (.int 17))))) (eC (.int 2147483647))))
    (sRet (eBin modI (eUn intD (eBin fdivI (eVar 5) (eC (.int 16)))) (eVar 1)))))))))))
noncomputable def F_l_pick : List Vl → M D := fnV 6 b_l_pick

/-! _law_common: 0 a, 1 b -/
noncomputable def b_l_common_1 : Ev → M Out :=
  (sTup [.nm 0, .nm 1] (aD (eVar 1) (aD (eBin modI (eUn intD (eVar 0)) (eVar 1)) aNil)))
noncomputable def b_l_common : Ev → M Out :=
  (sSeq (sTup [.nm 0, .nm 1] (aD (eUn absI (eVar 0)) (aD (eUn absI (eVar 1)) aNil)))
    (sSeq (sWhile (bV (eBin gtI (eVar 1) (eC (.int 0))))
    b_l_common_1)
    (sRet (eVar 0))))
noncomputable def F_l_common : List Vl → M D := fnV 2 b_l_common

/-! _law_bottom: 0 source, 1 n, 2 k -/
noncomputable def b_l_bottom_1 : Ev → M Out :=
  (sSet 2 (eBin subI (eVar 2) (eC (.int 1))))
noncomputable def b_l_bottom : Ev → M Out :=
  (sSeq (sSet 1 (eBin addD (eC (.int 2)) (eCall 2 F_l_pick (aSrc 0 (aD (eBin getD (eLst (aD (eC (.int 10)) (aD (eC (.int 60)) (aD (eC (.int 1900)) aNil)))) (eCall 2 F_l_pick (aSrc 0 (aD (eC (.int 3)) aNil)))) aNil)))))
    (sSeq (sSet 2 (eBin addD (eC (.int 1)) (eCall 2 F_l_pick (aSrc 0 (aD (eBin subI (eVar 1) (eC (.int 1))) aNil)))))
    (sSeq (sWhile (bV (eBin gtI (eCall 2 F_l_common (aD (eVar 1) (aD (eVar 2) aNil))) (eC (.int 1))))
    b_l_bottom_1)
    (sRet (eTup (aD (eVar 1) (aD (eVar 2) aNil)))))))
noncomputable def F_l_bottom : List Vl → M D := fnV 3 b_l_bottom

/-! _law_less: 0 p, 1 q, 2 found, 3 k -/
noncomputable def b_l_less_1 : Ev → M Out :=
  (sSeq (sSet 3 (eBin subI (eC (.int 0)) (eBin fdivI (eBin subI (eC (.int 0)) (eVar 0)) (eVar 1))))
    (sSeq (sApp 2 (eVar 3))
    (sTup [.nm 0, .nm 1] (aD (eVar 1) (aD (eBin subI (eBin mulD (eVar 3) (eVar 1)) (eVar 0)) aNil)))))
noncomputable def b_l_less : Ev → M Out :=
  (sSeq (sOwn 2 (eLst aNil))
    (sSeq (sWhile (bV (eBin gtI (eVar 1) (eC (.int 0))))
    b_l_less_1)
    (sRet (eUn tupD (eOwn 2)))))
noncomputable def F_l_less : List Vl → M D := fnV 4 b_l_less

/-! less_chain: 0 x, 1 p, 2 q, 3 found, 4 k -/
noncomputable def b_less_chain_1 : Ev → M Out :=
  (sSeq (sSet 4 (eUn negI (eBin fdivI (eUn negI (eVar 1)) (eVar 2))))
    (sSeq (sApp 3 (eVar 4))
    (sTup [.nm 1, .nm 2] (aD (eVar 2) (aD (eBin subI (eBin mulD (eVar 4) (eVar 2)) (eVar 1)) aNil)))))
noncomputable def b_less_chain : Ev → M Out :=
  (sSeq (sTup [.tp [1, 2], .nm 3] (aD (eVar 0) (aOwn (eLst aNil) aNil)))
    (sSeq (sWhile (bV (eBin gtI (eVar 2) (eC (.int 0))))
    b_less_chain_1)
    (sRet (eUn tupD (eOwn 3)))))
noncomputable def F_less_chain : List Vl → M D := fnV 5 b_less_chain

/-! down_step: 0 a, 1 b -/
noncomputable def b_down_step : Ev → M Out :=
  (sRet (eTup (aD (eBin fdivI (eVar 0) (eVar 1)) (aD (eBin modI (eVar 0) (eVar 1)) aNil))))
noncomputable def F_down_step : List Vl → M D := fnV 2 b_down_step

/-! near_step: 0 a, 1 b, 2 k, 3 r -/
noncomputable def b_near_step : Ev → M Out :=
  (sSeq (sTup [.nm 2, .nm 3] (aD (eBin fdivI (eVar 0) (eVar 1)) (aD (eBin modI (eVar 0) (eVar 1)) aNil)))
    (sRet (eIf (bV (eBin leI (eBin mulD (eC (.int 2)) (eVar 3)) (eVar 1))) (eTup (aD (eVar 2) (aD (eVar 3) (aD (eC (.int 1)) aNil)))) (eTup (aD (eBin addD (eVar 2) (eC (.int 1))) (aD (eBin subI (eVar 1) (eVar 3)) (aD (eUn negI (eC (.int 1))) aNil)))))))
noncomputable def F_near_step : List Vl → M D := fnV 4 b_near_step

/-! up_step: 0 a, 1 b, 2 k -/
noncomputable def b_up_step : Ev → M Out :=
  (sSeq (sSet 2 (eUn negI (eBin fdivI (eUn negI (eVar 0)) (eVar 1))))
    (sRet (eTup (aD (eVar 2) (aD (eBin subI (eBin mulD (eVar 2) (eVar 1)) (eVar 0)) aNil)))))
noncomputable def F_up_step : List Vl → M D := fnV 3 b_up_step

/-! one_step: 0 sort, 1 a, 2 b -/
noncomputable def b_one_step : Ev → M Out :=
  (sSeq (sIf (bV (eBin eqB (eVar 0) (eC (.str "down")))) (sRet (eCall 2 F_down_step (aD (eVar 1) (aD (eVar 2) aNil)))) sNil)
    (sRet (eIf (bV (eBin eqB (eVar 0) (eC (.str "near")))) (eCall 2 F_near_step (aD (eVar 1) (aD (eVar 2) aNil))) (eCall 2 F_up_step (aD (eVar 1) (aD (eVar 2) aNil))))))
noncomputable def F_one_step : List Vl → M D := fnV 3 b_one_step

/-! euclid_steps: 0 sort, 1 a, 2 b, 3 found -/
noncomputable def b_euclid_steps_1 : Ev → M Out :=
  (sSeq (sApp 3 (eCall 3 F_one_step (aD (eVar 0) (aD (eVar 1) (aD (eVar 2) aNil)))))
    (sTup [.nm 1, .nm 2] (aD (eVar 2) (aD (eBin getD (eBin getD (eOwn 3) (eUn negI (eC (.int 1)))) (eC (.int 1))) aNil))))
noncomputable def b_euclid_steps : Ev → M Out :=
  (sSeq (sIf (bV (eBin ninB (eVar 0) (eTup (aD (eC (.str "down")) (aD (eC (.str "near")) (aD (eC (.str "up")) aNil)))))) sErr sNil)
    (sSeq (sOwn 3 (eLst aNil))
    (sSeq (sWhile (bV (eBin gtI (eVar 2) (eC (.int 0))))
    b_euclid_steps_1)
    (sRet (eUn tupD (eOwn 3))))))
noncomputable def F_euclid_steps : List Vl → M D := fnV 4 b_euclid_steps

/-! count_steps: 0 sort, 1 a, 2 b -/
noncomputable def b_count_steps : Ev → M Out :=
  (sRet (eUn lenD (eCall 3 F_euclid_steps (aD (eVar 0) (aD (eVar 1) (aD (eVar 2) aNil))))))
noncomputable def F_count_steps : List Vl → M D := fnV 3 b_count_steps

/-! less_value: 0 chain, 1 p, 2 q, 3 number -/
noncomputable def b_less_value_1 : Ev → M Out :=
  (sTup [.nm 1, .nm 2] (aD (eBin subI (eBin mulD (eVar 3) (eVar 1)) (eVar 2)) (aD (eVar 1) aNil)))
noncomputable def b_less_value : Ev → M Out :=
  (sSeq (sTup [.nm 1, .nm 2] (aD (eBin getD (eVar 0) (eUn negI (eC (.int 1)))) (aD (eC (.int 1)) aNil)))
    (sSeq (sFor (some 3) [] (iSeq (eUn revD (eSl (eVar 0) oNone (oSome (eUn negI (eC (.int 1)))))))
    b_less_value_1)
    (sRet (eTup (aD (eVar 1) (aD (eVar 2) aNil))))))
noncomputable def F_less_value : List Vl → M D := fnV 4 b_less_value

/-! odd_chain: 0 chain -/
noncomputable def b_odd_chain : Ev → M Out :=
  (sSeq (sIf (bV (eBin eqB (eBin modI (eUn lenD (eVar 0)) (eC (.int 2))) (eC (.int 0)))) (sRet (eVar 0)) sNil)
    (sRet (eTup (aStar (eSl (eVar 0) oNone (oSome (eUn negI (eC (.int 1))))) (aD (eBin subI (eBin getD (eVar 0) (eUn negI (eC (.int 1)))) (eC (.int 1))) (aD (eC (.int 1)) aNil))))))
noncomputable def F_odd_chain : List Vl → M D := fnV 1 b_odd_chain

/-! up_numbers: 0 chain, 1 found, 2 late, 3 i -/
noncomputable def b_up_numbers_1 : Ev → M Out :=
  (sSeq (sApp 1 (eBin addD (eBin getD (eVar 2) (eVar 3)) (eIf (bV (eBin eqB (eVar 3) (eC (.int 0)))) (eC (.int 1)) (eC (.int 2)))))
    (sExt 1 (eBin mulD (eLst (aD (eC (.int 2)) aNil)) (eBin subI (eBin getD (eVar 2) (eBin addD (eVar 3) (eC (.int 1)))) (eC (.int 1))))))
noncomputable def b_up_numbers : Ev → M Out :=
  (sSeq (sTup [.nm 1, .nm 2] (aOwn (eLst aNil) (aD (eCall 1 F_odd_chain (aD (eVar 0) aNil)) aNil)))
    (sSeq (sFor (some 3) [] (iRg3 (eC (.int 0)) (eUn lenD (eVar 2)) (eC (.int 2)))
    b_up_numbers_1)
    (sRet (eUn tupD (eOwn 1)))))
noncomputable def F_up_numbers : List Vl → M D := fnV 4 b_up_numbers

/-! less_by_chain: 0 chain -/
noncomputable def b_less_by_chain : Ev → M Out :=
  (sRet (eCall 1 F_up_numbers (aD (eVar 0) aNil)))
noncomputable def F_less_by_chain : List Vl → M D := fnV 1 b_less_by_chain

/-! rest_chain: 0 n, 1 k -/
noncomputable def b_rest_chain : Ev → M Out :=
  (sRet (eCall 1 F_less_chain (aD (eTup (aD (eVar 0) (aD (eBin subI (eVar 0) (eVar 1)) aNil))) aNil)))
noncomputable def F_rest_chain : List Vl → M D := fnV 2 b_rest_chain

/-! turned_less: 0 n, 1 k -/
noncomputable def b_turned_less : Ev → M Out :=
  (sRet (eBin getD (eCall 1 F_less_value (aD (eUn revD (eCall 1 F_less_chain (aD (eTup (aD (eVar 0) (aD (eVar 1) aNil))) aNil))) aNil)) (eC (.int 1))))
noncomputable def F_turned_less : List Vl → M D := fnV 2 b_turned_less

/-! law: 0 script, 1 source, 2 lap, 3 n, 4 k, 5 chain, 6 other, 7 back, 8 p, 9 by, 10 x, 11 late, 12 drawn, 13 a, 14 b, 15 number, 16 made, 17 j, 18 c, 19 turn -/
noncomputable def b_law_1 : Ev → M Out :=
  (sTup [.nm 13, .nm 14] (aD (eBin addD (eBin mulD (eVar 15) (eVar 13)) (eVar 14)) (aD (eVar 13) aNil)))
noncomputable def b_law_2 : Ev → M Out :=
  (sTup [.nm 13, .nm 14] (aD (eBin subI (eBin mulD (eVar 15) (eVar 13)) (eVar 14)) (aD (eVar 13) aNil)))
noncomputable def b_law_3 : Ev → M Out :=
  (sSeq (sAsg none [.nm 3, .nm 4] (eCall 1 F_l_bottom (aSrc 1 aNil)))
    (sSeq (sTup [.nm 5, .nm 6] (aD (eCall 2 F_l_less (aD (eVar 3) (aD (eVar 4) aNil))) (aD (eCall 2 F_l_less (aD (eVar 3) (aD (eBin subI (eVar 3) (eVar 4)) aNil))) aNil)))
    (sSeq (sIf (bV (eBin neB (eUn reprD (eLst (aD (eCall 1 F_less_chain (aD (eTup (aD (eVar 3) (aD (eVar 4) aNil))) aNil)) (aD (eCall 2 F_rest_chain (aD (eVar 3) (aD (eVar 4) aNil))) (aD (eCall 1 F_less_value (aD (eVar 5) aNil)) aNil))))) (eUn reprD (eLst (aD (eVar 5) (aD (eVar 6) (aD (eTup (aD (eVar 3) (aD (eVar 4) aNil))) aNil))))))) (sRet (eC (.bool false))) sNil)
    (sSeq (sIf (bOr (bV (eBin ltI (eUn minI (eVar 5)) (eC (.int 2)))) (bV (eBin neB (eCall 3 F_count_steps (aD (eC (.str "up")) (aD (eVar 3) (aD (eVar 4) aNil)))) (eUn lenD (eVar 5))))) (sRet (eC (.bool false))) sNil)
    (sSeq (sSet 7 (eBin getD (eLc [17] (some 17) [] (iRg2 (eC (.int 1)) (eVar 3)) (bV (eBin eqB (eBin modI (eUn intD (eBin mulD (eVar 17) (eVar 4))) (eVar 3)) (eC (.int 1)))) (eVar 17)) (eC (.int 0))))
    (sSeq (sIf (bOr (bV (eBin neB (eUn reprD (eCall 2 F_turned_less (aD (eVar 3) (aD (eVar 4) aNil)))) (eUn reprD (eVar 7)))) (bV (eBin neB (eCall 1 F_less_chain (aD (eTup (aD (eVar 3) (aD (eVar 7) aNil))) aNil)) (eUn revD (eVar 5))))) (sRet (eC (.bool false))) sNil)
    (sSeq (sIf (bV (eBin neB (eBin addD (eBin subI (eUn sumI (eVar 5)) (eBin mulD (eC (.int 2)) (eUn lenD (eVar 5)))) (eC (.int 1))) (eUn lenD (eVar 6)))) (sRet (eC (.bool false))) sNil)
    (sSeq (sIf (bV (eBin neB (eBin subI (eUn sumI (eVar 5)) (eUn lenD (eVar 5))) (eBin subI (eUn sumI (eVar 6)) (eUn lenD (eVar 6))))) (sRet (eC (.bool false))) sNil)
    (sSeq (sSet 8 (eBin subI (eCall 2 F_l_pick (aSrc 1 (aD (eC (.int 4001)) aNil))) (eC (.int 2000))))
    (sSeq (sSet 9 (eCall 2 F_l_common (aD (eVar 8) (aD (eVar 3) aNil))))
    (sSeq (sSet 10 (eTup (aD (eBin fdivI (eVar 8) (eVar 9)) (aD (eBin fdivI (eVar 3) (eVar 9)) aNil))))
    (sSeq (sSet 11 (eCall 2 F_l_less (aD (eBin getD (eVar 10) (eC (.int 0))) (aD (eBin getD (eVar 10) (eC (.int 1))) aNil))))
    (sSeq (sIf (bOr (bV (eBin neB (eUn reprD (eCall 1 F_less_chain (aD (eVar 10) aNil))) (eUn reprD (eVar 11)))) (bOr (bV (eBin neB (eCall 1 F_less_value (aD (eVar 11) aNil)) (eVar 10))) (bV (eBin neB (eLc [18] (some 18) [] (iSeq (eSl (eVar 11) (oSome (eC (.int 1))) oNone)) (bV (eBin ltI (eVar 18) (eC (.int 2)))) (eVar 18)) (eLst aNil))))) (sRet (eC (.bool false))) sNil)
    (sSeq (sSet 12 (eTup (aD (eBin subI (eCall 2 F_l_pick (aSrc 1 (aD (eC (.int 9)) aNil))) (eC (.int 4))) aNil)))
    (sSeq (sSet 12 (eBin addD (eVar 12) (eUn tupD (eLc [19] (some 19) [] (iRg1 (eBin addD (eC (.int 1)) (eBin mulD (eC (.int 2)) (eCall 2 F_l_pick (aSrc 1 (aD (eC (.int 5)) aNil)))))) bT (eBin addD (eC (.int 1)) (eCall 2 F_l_pick (aSrc 1 (aD (eC (.int 5)) aNil))))))))
    (sSeq (sTup [.nm 13, .nm 14] (aD (eC (.int 1)) (aD (eC (.int 0)) aNil)))
    (sSeq (sFor (some 15) [] (iSeq (eUn revD (eVar 12)))
    b_law_1)
    (sSeq (sIf (bV (eBin neB (eUn reprD (eCall 1 F_less_by_chain (aD (eVar 12) aNil))) (eUn reprD (eCall 2 F_l_less (aD (eVar 13) (aD (eVar 14) aNil)))))) (sRet (eC (.bool false))) sNil)
    (sSeq (sSet 16 (eBin addD (eTup (aD (eBin subI (eCall 2 F_l_pick (aSrc 1 (aD (eC (.int 9)) aNil))) (eC (.int 4))) aNil)) (eUn tupD (eLc [19] (some 19) [] (iRg1 (eCall 2 F_l_pick (aSrc 1 (aD (eC (.int 8)) aNil)))) bT (eBin addD (eC (.int 2)) (eCall 2 F_l_pick (aSrc 1 (aD (eC (.int 4)) aNil))))))))
    (sSeq (sTup [.nm 13, .nm 14] (aD (eBin getD (eVar 16) (eUn negI (eC (.int 1)))) (aD (eC (.int 1)) aNil)))
    (sSeq (sFor (some 15) [] (iSeq (eUn revD (eSl (eVar 16) oNone (oSome (eUn negI (eC (.int 1)))))))
    b_law_2)
    (sIf (bOr (bV (eBin neB (eUn reprD (eCall 1 F_less_value (aD (eVar 16) aNil))) (eUn reprD (eTup (aD (eVar 13) (aD (eVar 14) aNil)))))) (bV (eBin neB (eCall 1 F_less_chain (aD (eTup (aD (eVar 13) (aD (eVar 14) aNil))) aNil)) (eVar 16)))) (sRet (eC (.bool false))) sNil))))))))))))))))))))))
noncomputable def b_law : Ev → M Out :=
  (sSeq (sFor (some 2) [] (iRg1 (eC (.int 5)))
    b_law_3)
    (sRet (eBin eqB (eCall 1 F_less_chain (aD (eTup (aD (eC (.int 5)) (aD (eC (.int 2)) aNil))) aNil)) (eTup (aD (eC (.int 3)) (aD (eC (.int 2)) aNil))))))
section
variable {P : Program} {w : World} {K : PySem.W.Frag} {mg : Str → Option Value} {base : Heap} {f : Addr} {fd : FuncData}
theorem O_l_open_cells (F : FnP K "_law_open_cells" S_l_open_cells f fd) (hm : mg "_law_open_cells" = some (.ref f)) (B : ∀ x ∈ blts, mg x = none) : OpenOk P w K mg base 1 "_law_open_cells" := by
  have S : FnScope ["script", "stirred", "cell", "cells"] ["script"] (defScope S_l_open_cells) := ⟨rfl, rfl, rfl, by decide +kernel, rfl, by decide +kernel, by decide +kernel⟩
  have bd : Binds K fd ["script"] [] := F.bindsN fun _ _ _ _ _ _ us hl => match us, hl with | [_], _ => rfl
  refine open_ok F hm S bd fun cdv A outer s H E hgd hr => ?_
  exact (pss_cons (ps_set (i := 1) S.nd rfl (.inl rfl) pe_int rfl (.inr rfl)) (pss_cons (ps_for (fun _ _ z => z.elim) rfl (pi_list (pe_var (i := 0) rfl (.inl rfl))) (pg_name (i := 2) S.nd rfl (.inl rfl) (.inr rfl))
    (pss_one (ps_set (i := 1) S.nd rfl (.inl rfl) (pe_op op_modA (pe_callTy call_int1 rfl (B _ (by decide : ("int" : Str) ∈ blts)) (by decide +kernel) (pa_cons (pe_op op_add (pe_op op_add (pe_op op_mulA (pe_var (i := 1) rfl (.inl rfl)) pe_int) (pe_op op_mulA (pe_var (i := 2) rfl (.inl rfl)) pe_int)) pe_int) pa_nil)) pe_int) rfl (.inr rfl))))
    (pss_cons (ps_setLc (i := 3) (own := [("cell", 2)]) rfl S.nd rfl rfl (sw_true rfl rfl rfl (by decide +kernel)) (pi_list (pe_var (i := 0) rfl (.inl rfl))) (blkOk_by (by kernel_rfl)) (fun _ _ _ _ _ => pg_name (i := 2) S.nd rfl (.inl rfl) (.inr rfl)) (fun _ _ _ _ _ => pts_nil)
      (fun _ _ _ _ _ => pe_callB call_abs rfl (B _ (by decide : ("abs" : Str) ∈ blts)) (by decide +kernel) (pa_cons (pe_var (i := 2) rfl (.inl rfl)) pa_nil)))
    (pss_one (ps_ret (pe_disp (pps_cons pe_str (pe_revL (pe_var (i := 3) rfl (.inl rfl))) (pps_cons pe_str pe_int (pps_cons pe_str (pe_var (i := 1) rfl (.inl rfl)) (pps_cons pe_str pe_int pps_nil)))) rfl rfl (by simp) (by decide)))))))
theorem ok_l_pick (F : FnP K "_law_pick" S_l_pick f fd) (hm : mg "_law_pick" = some (.ref f)) (B : ∀ x ∈ blts, mg x = none) : DefOk P w K mg base 1 "_law_pick" 2 F_l_pick := by
  have S : FnScope ["source", "most", "cells", "others", "lap", "stirred"] ["source", "most"] (defScope S_l_pick) := ⟨rfl, rfl, rfl, by decide +kernel, rfl, by decide +kernel, by decide +kernel⟩
  have bd : Binds K fd ["source", "most"] [] := F.bindsN fun _ _ _ _ _ _ us hl => match us, hl with | [_, _], _ => rfl
  refine def_ok F hm S bd fun cdv A outer s H E hgd hr => ?_
  exact (ss_cons (ss_if (sb_lt (SE.st (se_var 1)) (SE.st se_int)) (ss_one (ss_ret se_int)) ss_nil)
    (ss_pops (hu1 hr) 0 2 (fun _ _ z => z.elim) S.nd rfl (B _ (by decide : ("len" : Str) ∈ blts)) (ss_cons (ss_set 3 S.nd (se_sg (hu1 hr) 0 .left))
    (ss_cons (ss_if (sb_gt (SE.st (se_var 3)) (SE.st se_int)) (ss_cons (ss_sp (hu1 hr) 0 .left (se_fdiv (SE.st (se_var 3)) (SE.st (se_var 1))))
    (ss_one (ss_ret (se_mod (SE.st (se_intC (B _ (by decide : ("int" : Str) ∈ blts)) (SE.st (se_var 3)))) (SE.st (se_var 1)))))) ss_nil)
    (ss_cons (ss_sp (hu1 hr) 0 .turn (se_add (SE.st (se_sg (hu1 hr) 0 .turn)) (SE.st se_int)))
    (ss_cons (ss_set 4 S.nd (se_sg (hu1 hr) 0 .turn))
    (ss_cons (ss_set 5 S.nd (se_mod (SE.st (se_intC (B _ (by decide : ("int" : Str) ∈ blts)) (SE.st (se_add (SE.st (se_sg (hu1 hr) 0 .mixed)) (SE.st (se_mul (SE.st (se_var 4)) (SE.st se_int))))))) (SE.st se_int)))
    (ss_cons (ss_set 5 S.nd (se_mod (SE.st (se_intC (B _ (by decide : ("int" : Str) ∈ blts)) (SE.st (se_add (SE.st (se_mul (SE.st (se_var 5)) (SE.st (se_var 5)))) (SE.st (se_mul (SE.st (se_var 4)) (SE.st se_int))))))) (SE.st se_int)))
    (ss_one (ss_ret (se_mod (SE.st (se_intC (B _ (by decide : ("int" : Str) ∈ blts)) (SE.st (se_fdiv (SE.st (se_var 5)) (SE.st se_int))))) (SE.st (se_var 1)))))))))))))
theorem ok_l_common (F : FnP K "_law_common" S_l_common f fd) (hm : mg "_law_common" = some (.ref f)) (B : ∀ x ∈ blts, mg x = none) : DefOk P w K mg base 1 "_law_common" 2 F_l_common := by
  have S : FnScope ["a", "b"] ["a", "b"] (defScope S_l_common) := ⟨rfl, rfl, rfl, by decide +kernel, rfl, by decide +kernel, by decide +kernel⟩
  have bd : Binds K fd ["a", "b"] [] := F.bindsN fun _ _ _ _ _ _ us hl => match us, hl with | [_, _], _ => rfl
  refine def_ok F hm S bd fun cdv A outer s H E hgd hr => ?_
  exact (ss_cons (ss_par 0 1 rfl S.nd (sa_d (se_abs (B _ (by decide : ("abs" : Str) ∈ blts)) (SE.st (se_var 0))) (sa_d (se_abs (B _ (by decide : ("abs" : Str) ∈ blts)) (SE.st (se_var 1))) sa_nil)))
    (ss_cons (ss_while (fun _ _ z => z.elim) (sb_gt (SE.st (se_var 1)) (SE.st se_int))
    (ss_one (ss_par 0 1 rfl S.nd (sa_d (se_var 1) (sa_d (se_mod (SE.st (se_intC (B _ (by decide : ("int" : Str) ∈ blts)) (SE.st (se_var 0)))) (SE.st (se_var 1))) sa_nil)))))
    (ss_one (ss_ret (se_var 0)))))
theorem ok_l_bottom (F : FnP K "_law_bottom" S_l_bottom f fd) (hm : mg "_law_bottom" = some (.ref f)) (B : ∀ x ∈ blts, mg x = none) (D_l_pick : DefOk P w K mg base 1 "_law_pick" 2 F_l_pick) (D_l_common : DefOk P w K mg base 1 "_law_common" 2 F_l_common) : DefOk P w K mg base 2 "_law_bottom" 1 F_l_bottom := by
  have S : FnScope ["source", "n", "k"] ["source"] (defScope S_l_bottom) := ⟨rfl, rfl, rfl, by decide +kernel, rfl, by decide +kernel, by decide +kernel⟩
  have bd : Binds K fd ["source"] [] := F.bindsN fun _ _ _ _ _ _ us hl => match us, hl with | [_], _ => rfl
  refine def_ok F hm S bd fun cdv A outer s H E hgd hr => ?_
  exact (ss_cons (ss_set 1 S.nd (se_add (SE.st se_int) (SE.st (se_def D_l_pick hgd (hr.mono (by decide)) (sa_src 0 (sa_d (se_ix (SF.st (sf_lst (sa_d se_int (sa_d se_int (sa_d se_int sa_nil))))) (SE.st (se_def D_l_pick hgd (hr.mono (by decide)) (sa_src 0 (sa_d se_int sa_nil))))) sa_nil))))))
    (ss_cons (ss_set 2 S.nd (se_add (SE.st se_int) (SE.st (se_def D_l_pick hgd (hr.mono (by decide)) (sa_src 0 (sa_d (se_sub (SE.st (se_var 1)) (SE.st se_int)) sa_nil))))))
    (ss_cons (ss_while (fun _ _ z => z.elim) (sb_gt (SE.st (se_def D_l_common hgd (hr.mono (by decide)) (sa_d (se_var 1) (sa_d (se_var 2) sa_nil)))) (SE.st se_int))
    (ss_one (ss_set 2 S.nd (se_sub (SE.st (se_var 2)) (SE.st se_int)))))
    (ss_one (ss_ret (se_tup (sa_d (se_var 1) (sa_d (se_var 2) sa_nil))))))))
theorem ok_l_less (F : FnP K "_law_less" S_l_less f fd) (hm : mg "_law_less" = some (.ref f)) (B : ∀ x ∈ blts, mg x = none) : DefOk P w K mg base 1 "_law_less" 2 F_l_less := by
  have S : FnScope ["p", "q", "found", "k"] ["p", "q"] (defScope S_l_less) := ⟨rfl, rfl, rfl, by decide +kernel, rfl, by decide +kernel, by decide +kernel⟩
  have bd : Binds K fd ["p", "q"] [] := F.bindsN fun _ _ _ _ _ _ us hl => match us, hl with | [_, _], _ => rfl
  refine def_ok F hm S bd fun cdv A outer s H E hgd hr => ?_
  exact (ss_cons (ss_own 2 S.nd (sf_lst sa_nil))
    (ss_cons (ss_while (fun _ _ z => z.elim) (sb_gt (SE.st (se_var 1)) (SE.st se_int))
    (ss_cons (ss_set 3 S.nd (se_sub (SE.st se_int) (SE.st (se_fdiv (SE.st (se_sub (SE.st se_int) (SE.st (se_var 0)))) (SE.st (se_var 1))))))
    (ss_cons (ss_app 2 (se_var 3))
    (ss_one (ss_par 0 1 rfl S.nd (sa_d (se_var 1) (sa_d (se_sub (SE.st (se_mul (SE.st (se_var 3)) (SE.st (se_var 1)))) (SE.st (se_var 0))) sa_nil)))))))
    (ss_one (ss_ret (se_tupC (B _ (by decide : ("tuple" : Str) ∈ blts)) (st_own 2))))))
theorem ok_less_chain (F : FnP K "less_chain" S_less_chain f fd) (hm : mg "less_chain" = some (.ref f)) (B : ∀ x ∈ blts, mg x = none) : DefOk P w K mg base 1 "less_chain" 1 F_less_chain := by
  have S : FnScope ["x", "p", "q", "found", "k"] ["x"] (defScope S_less_chain) := ⟨rfl, rfl, rfl, by decide +kernel, rfl, by decide +kernel, by decide +kernel⟩
  have bd : Binds K fd ["x"] [] := F.bindsN fun _ _ _ _ _ _ us hl => match us, hl with | [_], _ => rfl
  refine def_ok F hm S bd fun cdv A outer s H E hgd hr => ?_
  exact (ss_cons (ss_tup rfl (sts_tp rfl (sns_cons 1 S.nd (sns_cons 2 S.nd sns_nil)) (sts_nm 3 S.nd sts_nil)) (sa_d (se_var 0) (sa_own (sf_lst sa_nil) sa_nil)))
    (ss_cons (ss_while (fun _ _ z => z.elim) (sb_gt (SE.st (se_var 2)) (SE.st se_int))
    (ss_cons (ss_set 4 S.nd (se_neg (SE.st (se_fdiv (SE.st (se_neg (SE.st (se_var 1)))) (SE.st (se_var 2))))))
    (ss_cons (ss_app 3 (se_var 4))
    (ss_one (ss_par 1 2 rfl S.nd (sa_d (se_var 2) (sa_d (se_sub (SE.st (se_mul (SE.st (se_var 4)) (SE.st (se_var 2)))) (SE.st (se_var 1))) sa_nil)))))))
    (ss_one (ss_ret (se_tupC (B _ (by decide : ("tuple" : Str) ∈ blts)) (st_own 3))))))
theorem ok_down_step (F : FnP K "down_step" S_down_step f fd) (hm : mg "down_step" = some (.ref f)) (B : ∀ x ∈ blts, mg x = none) : DefOk P w K mg base 1 "down_step" 2 F_down_step := by
  have S : FnScope ["a", "b"] ["a", "b"] (defScope S_down_step) := ⟨rfl, rfl, rfl, by decide +kernel, rfl, by decide +kernel, by decide +kernel⟩
  have bd : Binds K fd ["a", "b"] [] := F.bindsN fun _ _ _ _ _ _ us hl => match us, hl with | [_, _], _ => rfl
  refine def_ok F hm S bd fun cdv A outer s H E hgd hr => ?_
  exact (ss_one (ss_ret (se_tup (sa_d (se_fdiv (SE.st (se_var 0)) (SE.st (se_var 1))) (sa_d (se_mod (SE.st (se_var 0)) (SE.st (se_var 1))) sa_nil)))))
theorem ok_near_step (F : FnP K "near_step" S_near_step f fd) (hm : mg "near_step" = some (.ref f)) (B : ∀ x ∈ blts, mg x = none) : DefOk P w K mg base 1 "near_step" 2 F_near_step := by
  have S : FnScope ["a", "b", "k", "r"] ["a", "b"] (defScope S_near_step) := ⟨rfl, rfl, rfl, by decide +kernel, rfl, by decide +kernel, by decide +kernel⟩
  have bd : Binds K fd ["a", "b"] [] := F.bindsN fun _ _ _ _ _ _ us hl => match us, hl with | [_, _], _ => rfl
  refine def_ok F hm S bd fun cdv A outer s H E hgd hr => ?_
  exact (ss_cons (ss_par 2 3 rfl S.nd (sa_d (se_fdiv (SE.st (se_var 0)) (SE.st (se_var 1))) (sa_d (se_mod (SE.st (se_var 0)) (SE.st (se_var 1))) sa_nil)))
    (ss_one (ss_ret (se_if (sb_le (SE.st (se_mul (SE.st se_int) (SE.st (se_var 3)))) (SE.st (se_var 1))) (se_tup (sa_d (se_var 2) (sa_d (se_var 3) (sa_d se_int sa_nil)))) (se_tup (sa_d (se_add (SE.st (se_var 2)) (SE.st se_int)) (sa_d (se_sub (SE.st (se_var 1)) (SE.st (se_var 3))) (sa_d (se_neg (SE.st se_int)) sa_nil))))))))
theorem ok_up_step (F : FnP K "up_step" S_up_step f fd) (hm : mg "up_step" = some (.ref f)) (B : ∀ x ∈ blts, mg x = none) : DefOk P w K mg base 1 "up_step" 2 F_up_step := by
  have S : FnScope ["a", "b", "k"] ["a", "b"] (defScope S_up_step) := ⟨rfl, rfl, rfl, by decide +kernel, rfl, by decide +kernel, by decide +kernel⟩
  have bd : Binds K fd ["a", "b"] [] := F.bindsN fun _ _ _ _ _ _ us hl => match us, hl with | [_, _], _ => rfl
  refine def_ok F hm S bd fun cdv A outer s H E hgd hr => ?_
  exact (ss_cons (ss_set 2 S.nd (se_neg (SE.st (se_fdiv (SE.st (se_neg (SE.st (se_var 0)))) (SE.st (se_var 1))))))
    (ss_one (ss_ret (se_tup (sa_d (se_var 2) (sa_d (se_sub (SE.st (se_mul (SE.st (se_var 2)) (SE.st (se_var 1)))) (SE.st (se_var 0))) sa_nil))))))
theorem ok_one_step (F : FnP K "one_step" S_one_step f fd) (hm : mg "one_step" = some (.ref f)) (B : ∀ x ∈ blts, mg x = none) (D_down_step : DefOk P w K mg base 1 "down_step" 2 F_down_step) (D_near_step : DefOk P w K mg base 1 "near_step" 2 F_near_step) (D_up_step : DefOk P w K mg base 1 "up_step" 2 F_up_step) : DefOk P w K mg base 2 "one_step" 3 F_one_step := by
  have S : FnScope ["sort", "a", "b"] ["sort", "a", "b"] (defScope S_one_step) := ⟨rfl, rfl, rfl, by decide +kernel, rfl, by decide +kernel, by decide +kernel⟩
  have bd : Binds K fd ["sort", "a", "b"] [] := F.bindsN fun _ _ _ _ _ _ us hl => match us, hl with | [_, _, _], _ => rfl
  refine def_ok F hm S bd fun cdv A outer s H E hgd hr => ?_
  exact (ss_cons (ss_if (sb_eq (hu70 hr) (SE.st (se_var 0)) (SE.st se_str)) (ss_one (ss_ret (se_def D_down_step hgd (hr.mono (by decide)) (sa_d (se_var 1) (sa_d (se_var 2) sa_nil))))) ss_nil)
    (ss_one (ss_ret (se_if (sb_eq (hu70 hr) (SE.st (se_var 0)) (SE.st se_str)) (se_def D_near_step hgd (hr.mono (by decide)) (sa_d (se_var 1) (sa_d (se_var 2) sa_nil))) (se_def D_up_step hgd (hr.mono (by decide)) (sa_d (se_var 1) (sa_d (se_var 2) sa_nil)))))))
theorem ok_euclid_steps (F : FnP K "euclid_steps" S_euclid_steps f fd) (hm : mg "euclid_steps" = some (.ref f)) (B : ∀ x ∈ blts, mg x = none) (D_one_step : DefOk P w K mg base 2 "one_step" 3 F_one_step) : DefOk P w K mg base 3 "euclid_steps" 3 F_euclid_steps := by
  have S : FnScope ["sort", "a", "b", "found"] ["sort", "a", "b"] (defScope S_euclid_steps) := ⟨rfl, rfl, rfl, by decide +kernel, rfl, by decide +kernel, by decide +kernel⟩
  have bd : Binds K fd ["sort", "a", "b"] [] := F.bindsN fun _ _ _ _ _ _ us hl => match us, hl with | [_, _, _], _ => rfl
  refine def_ok F hm S bd fun cdv A outer s H E hgd hr => ?_
  exact (ss_cons (ss_if (sb_nin (hu70 hr) (SE.st (se_var 0)) (SE.st (se_tup (sa_d se_str (sa_d se_str (sa_d se_str sa_nil)))))) (ss_one ss_never) ss_nil)
    (ss_cons (ss_own 3 S.nd (sf_lst sa_nil))
    (ss_cons (ss_while (fun _ _ z => z.elim) (sb_gt (SE.st (se_var 2)) (SE.st se_int))
    (ss_cons (ss_app 3 (se_def D_one_step hgd (hr.mono (by decide)) (sa_d (se_var 0) (sa_d (se_var 1) (sa_d (se_var 2) sa_nil)))))
    (ss_one (ss_par 1 2 rfl S.nd (sa_d (se_var 2) (sa_d (se_ix (SE.st (se_ix (st_own 3) (SE.st (se_neg (SE.st se_int))))) (SE.st se_int)) sa_nil))))))
    (ss_one (ss_ret (se_tupC (B _ (by decide : ("tuple" : Str) ∈ blts)) (st_own 3)))))))
theorem ok_count_steps (F : FnP K "count_steps" S_count_steps f fd) (hm : mg "count_steps" = some (.ref f)) (B : ∀ x ∈ blts, mg x = none) (D_euclid_steps : DefOk P w K mg base 3 "euclid_steps" 3 F_euclid_steps) : DefOk P w K mg base 4 "count_steps" 3 F_count_steps := by
  have S : FnScope ["sort", "a", "b"] ["sort", "a", "b"] (defScope S_count_steps) := ⟨rfl, rfl, rfl, by decide +kernel, rfl, by decide +kernel, by decide +kernel⟩
  have bd : Binds K fd ["sort", "a", "b"] [] := F.bindsN fun _ _ _ _ _ _ us hl => match us, hl with | [_, _, _], _ => rfl
  refine def_ok F hm S bd fun cdv A outer s H E hgd hr => ?_
  exact (ss_one (ss_ret (se_len (B _ (by decide : ("len" : Str) ∈ blts)) (SE.st (se_def D_euclid_steps hgd (hr.mono (by decide)) (sa_d (se_var 0) (sa_d (se_var 1) (sa_d (se_var 2) sa_nil))))))))
theorem ok_less_value (F : FnP K "less_value" S_less_value f fd) (hm : mg "less_value" = some (.ref f)) (B : ∀ x ∈ blts, mg x = none) : DefOk P w K mg base 1 "less_value" 1 F_less_value := by
  have S : FnScope ["chain", "p", "q", "number"] ["chain"] (defScope S_less_value) := ⟨rfl, rfl, rfl, by decide +kernel, rfl, by decide +kernel, by decide +kernel⟩
  have bd : Binds K fd ["chain"] [] := F.bindsN fun _ _ _ _ _ _ us hl => match us, hl with | [_], _ => rfl
  refine def_ok F hm S bd fun cdv A outer s H E hgd hr => ?_
  exact (ss_cons (ss_par 1 2 rfl S.nd (sa_d (se_ix (SE.st (se_var 0)) (SE.st (se_neg (SE.st se_int)))) (sa_d se_int sa_nil)))
    (ss_cons (ss_for (fun _ _ z => z.elim) rfl (si_seq (se_rev (SE.st (se_sl (SE.st (se_var 0)) so_none (so_some (SE.st (se_neg (SE.st se_int)))))))) (sg_nm 3 S.nd)
    (ss_one (ss_par 1 2 rfl S.nd (sa_d (se_sub (SE.st (se_mul (SE.st (se_var 3)) (SE.st (se_var 1)))) (SE.st (se_var 2))) (sa_d (se_var 1) sa_nil)))))
    (ss_one (ss_ret (se_tup (sa_d (se_var 1) (sa_d (se_var 2) sa_nil)))))))
theorem ok_odd_chain (F : FnP K "odd_chain" S_odd_chain f fd) (hm : mg "odd_chain" = some (.ref f)) (B : ∀ x ∈ blts, mg x = none) : DefOk P w K mg base 1 "odd_chain" 1 F_odd_chain := by
  have S : FnScope ["chain"] ["chain"] (defScope S_odd_chain) := ⟨rfl, rfl, rfl, by decide +kernel, rfl, by decide +kernel, by decide +kernel⟩
  have bd : Binds K fd ["chain"] [] := F.bindsN fun _ _ _ _ _ _ us hl => match us, hl with | [_], _ => rfl
  refine def_ok F hm S bd fun cdv A outer s H E hgd hr => ?_
  exact (ss_cons (ss_if (sb_eq (hu70 hr) (SE.st (se_mod (SE.st (se_len (B _ (by decide : ("len" : Str) ∈ blts)) (SE.st (se_var 0)))) (SE.st se_int))) (SE.st se_int)) (ss_one (ss_ret (se_var 0))) ss_nil)
    (ss_one (ss_ret (se_tup (sa_star (SE.st (se_sl (SE.st (se_var 0)) so_none (so_some (SE.st (se_neg (SE.st se_int)))))) (sa_d (se_sub (SE.st (se_ix (SE.st (se_var 0)) (SE.st (se_neg (SE.st se_int))))) (SE.st se_int)) (sa_d se_int sa_nil)))))))
theorem ok_up_numbers (F : FnP K "up_numbers" S_up_numbers f fd) (hm : mg "up_numbers" = some (.ref f)) (B : ∀ x ∈ blts, mg x = none) (D_odd_chain : DefOk P w K mg base 1 "odd_chain" 1 F_odd_chain) : DefOk P w K mg base 2 "up_numbers" 1 F_up_numbers := by
  have S : FnScope ["chain", "found", "late", "i"] ["chain"] (defScope S_up_numbers) := ⟨rfl, rfl, rfl, by decide +kernel, rfl, by decide +kernel, by decide +kernel⟩
  have bd : Binds K fd ["chain"] [] := F.bindsN fun _ _ _ _ _ _ us hl => match us, hl with | [_], _ => rfl
  refine def_ok F hm S bd fun cdv A outer s H E hgd hr => ?_
  exact (ss_cons (ss_par 1 2 rfl S.nd (sa_own (sf_lst sa_nil) (sa_d (se_def D_odd_chain hgd (hr.mono (by decide)) (sa_d (se_var 0) sa_nil)) sa_nil)))
    (ss_cons (ss_for (fun _ _ z => z.elim) rfl (si_rg3 (B _ (by decide : ("range" : Str) ∈ blts)) se_int (se_len (B _ (by decide : ("len" : Str) ∈ blts)) (SE.st (se_var 2))) se_int) (sg_nm 3 S.nd)
    (ss_cons (ss_app 1 (se_add (SE.st (se_ix (SE.st (se_var 2)) (SE.st (se_var 3)))) (SE.st (se_if (sb_eq (hu70 hr) (SE.st (se_var 3)) (SE.st se_int)) se_int se_int))))
    (ss_one (ss_ext 1 (se_mul (SF.st (sf_lst (sa_d se_int sa_nil))) (SE.st (se_sub (SE.st (se_ix (SE.st (se_var 2)) (SE.st (se_add (SE.st (se_var 3)) (SE.st se_int))))) (SE.st se_int))))))))
    (ss_one (ss_ret (se_tupC (B _ (by decide : ("tuple" : Str) ∈ blts)) (st_own 1))))))
theorem ok_less_by_chain (F : FnP K "less_by_chain" S_less_by_chain f fd) (hm : mg "less_by_chain" = some (.ref f)) (B : ∀ x ∈ blts, mg x = none) (D_up_numbers : DefOk P w K mg base 2 "up_numbers" 1 F_up_numbers) : DefOk P w K mg base 3 "less_by_chain" 1 F_less_by_chain := by
  have S : FnScope ["chain"] ["chain"] (defScope S_less_by_chain) := ⟨rfl, rfl, rfl, by decide +kernel, rfl, by decide +kernel, by decide +kernel⟩
  have bd : Binds K fd ["chain"] [] := F.bindsN fun _ _ _ _ _ _ us hl => match us, hl with | [_], _ => rfl
  refine def_ok F hm S bd fun cdv A outer s H E hgd hr => ?_
  exact (ss_one (ss_ret (se_def D_up_numbers hgd (hr.mono (by decide)) (sa_d (se_var 0) sa_nil))))
theorem ok_rest_chain (F : FnP K "rest_chain" S_rest_chain f fd) (hm : mg "rest_chain" = some (.ref f)) (B : ∀ x ∈ blts, mg x = none) (D_less_chain : DefOk P w K mg base 1 "less_chain" 1 F_less_chain) : DefOk P w K mg base 2 "rest_chain" 2 F_rest_chain := by
  have S : FnScope ["n", "k"] ["n", "k"] (defScope S_rest_chain) := ⟨rfl, rfl, rfl, by decide +kernel, rfl, by decide +kernel, by decide +kernel⟩
  have bd : Binds K fd ["n", "k"] [] := F.bindsN fun _ _ _ _ _ _ us hl => match us, hl with | [_, _], _ => rfl
  refine def_ok F hm S bd fun cdv A outer s H E hgd hr => ?_
  exact (ss_one (ss_ret (se_def D_less_chain hgd (hr.mono (by decide)) (sa_d (se_tup (sa_d (se_var 0) (sa_d (se_sub (SE.st (se_var 0)) (SE.st (se_var 1))) sa_nil))) sa_nil))))
theorem ok_turned_less (F : FnP K "turned_less" S_turned_less f fd) (hm : mg "turned_less" = some (.ref f)) (B : ∀ x ∈ blts, mg x = none) (D_less_value : DefOk P w K mg base 1 "less_value" 1 F_less_value) (D_less_chain : DefOk P w K mg base 1 "less_chain" 1 F_less_chain) : DefOk P w K mg base 2 "turned_less" 2 F_turned_less := by
  have S : FnScope ["n", "k"] ["n", "k"] (defScope S_turned_less) := ⟨rfl, rfl, rfl, by decide +kernel, rfl, by decide +kernel, by decide +kernel⟩
  have bd : Binds K fd ["n", "k"] [] := F.bindsN fun _ _ _ _ _ _ us hl => match us, hl with | [_, _], _ => rfl
  refine def_ok F hm S bd fun cdv A outer s H E hgd hr => ?_
  exact (ss_one (ss_ret (se_ix (SE.st (se_def D_less_value hgd (hr.mono (by decide)) (sa_d (se_rev (SE.st (se_def D_less_chain hgd (hr.mono (by decide)) (sa_d (se_tup (sa_d (se_var 0) (sa_d (se_var 1) sa_nil))) sa_nil)))) sa_nil))) (SE.st se_int))))
theorem ok_law (F : FnP K "law" S_law f fd) (B : ∀ x ∈ blts, mg x = none) (D_l_bottom : DefOk P w K mg base 2 "_law_bottom" 1 F_l_bottom) (D_l_less : DefOk P w K mg base 1 "_law_less" 2 F_l_less) (D_less_value : DefOk P w K mg base 1 "less_value" 1 F_less_value) (D_rest_chain : DefOk P w K mg base 2 "rest_chain" 2 F_rest_chain) (D_less_chain : DefOk P w K mg base 1 "less_chain" 1 F_less_chain) (D_count_steps : DefOk P w K mg base 4 "count_steps" 3 F_count_steps) (D_turned_less : DefOk P w K mg base 2 "turned_less" 2 F_turned_less) (D_l_pick : DefOk P w K mg base 1 "_law_pick" 2 F_l_pick) (D_l_common : DefOk P w K mg base 1 "_law_common" 2 F_l_common) (D_less_by_chain : DefOk P w K mg base 3 "less_by_chain" 1 F_less_by_chain) (O : OpenOk P w K mg base 1 "_law_open_cells") (ok : LawOk 20 b_law) : FnG P w K mg base 5 f fd ["script"] (spLaw K) := by
  have S : FnScope ("script" :: "source" :: ["lap", "n", "k", "chain", "other", "back", "p", "by", "x", "late", "drawn", "a", "b", "number", "made", "j", "c", "turn"]) ["script"] (defScope S_law) := ⟨rfl, rfl, rfl, by decide +kernel, rfl, by decide +kernel, by decide +kernel⟩
  refine law_def F rfl (by decide) O S ok (by first | exact .inl rfl | exact .inr rfl) rfl (fun _ _ _ _ _ _ => rfl) (by decide) (fun _ _ _ _ _ _ => rfl) (fun _ _ _ _ _ _ => rfl) (fun _ _ _ _ _ _ => rfl) fun cdv A outer s H E hgd hr => ?_
  exact (ss_cons (ss_for (fun _ _ z => z.elim) rfl (si_rg1 (by rfl) (B _ (by decide : ("range" : Str) ∈ blts)) se_int) (sg_nm 2 S.nd)
    (ss_cons (ss_unp (sg_tup rfl (sts_nm 3 S.nd (sts_nm 4 S.nd sts_nil))) (se_def D_l_bottom hgd (hr.mono (by decide)) (sa_src 1 sa_nil)))
    (ss_cons (ss_par 5 6 rfl S.nd (sa_d (se_def D_l_less hgd (hr.mono (by decide)) (sa_d (se_var 3) (sa_d (se_var 4) sa_nil))) (sa_d (se_def D_l_less hgd (hr.mono (by decide)) (sa_d (se_var 3) (sa_d (se_sub (SE.st (se_var 3)) (SE.st (se_var 4))) sa_nil))) sa_nil)))
    (ss_cons (ss_if (sb_ne (hu70 hr) (SE.st (se_repr hgd (hu70 hr) (B _ (by decide : ("repr" : Str) ∈ blts)) (SF.se (sf_lst (sa_d (se_def D_less_chain hgd (hr.mono (by decide)) (sa_d (se_tup (sa_d (se_var 3) (sa_d (se_var 4) sa_nil))) sa_nil)) (sa_d (se_def D_rest_chain hgd (hr.mono (by decide)) (sa_d (se_var 3) (sa_d (se_var 4) sa_nil))) (sa_d (se_def D_less_value hgd (hr.mono (by decide)) (sa_d (se_var 5) sa_nil)) sa_nil))))))) (SE.st (se_repr hgd (hu70 hr) (B _ (by decide : ("repr" : Str) ∈ blts)) (SF.se (sf_lst (sa_d (se_var 5) (sa_d (se_var 6) (sa_d (se_tup (sa_d (se_var 3) (sa_d (se_var 4) sa_nil))) sa_nil)))))))) (ss_one (ss_ret se_bl)) ss_nil)
    (ss_cons (ss_if (sb_w (sw_or (sb_lt (SE.st (se_min rfl (B _ (by decide : ("min" : Str) ∈ blts)) (SE.st (se_var 5)))) (SE.st se_int)) (sw_or1 (sb_ne (hu70 hr) (SE.st (se_def D_count_steps hgd (hr.mono (by decide)) (sa_d se_str (sa_d (se_var 3) (sa_d (se_var 4) sa_nil))))) (SE.st (se_len (B _ (by decide : ("len" : Str) ∈ blts)) (SE.st (se_var 5)))))))) (ss_one (ss_ret se_bl)) ss_nil)
    (ss_cons (ss_set 7 S.nd (se_ix (SF.st (sf_lc rfl S.nd (si_rg2 (by rfl) (B _ (by decide : ("range" : Str) ∈ blts)) se_int (se_var 3)) (blkOk_by (own := [("j", 17)]) (by kernel_rfl)) (fun _ _ _ _ _ => (sg_nm 17 S.nd)) (fun _ _ _ _ _ => sts1 (sb_eq (hu70 hr) (SE.st (se_mod (SE.st (se_intC (B _ (by decide : ("int" : Str) ∈ blts)) (SE.st (se_mul (SE.st (se_var 17)) (SE.st (se_var 4)))))) (SE.st (se_var 3)))) (SE.st se_int))) (fun _ _ _ _ _ => (se_var 17)))) (SE.st se_int)))
    (ss_cons (ss_if (sb_w (sw_or (sb_ne (hu70 hr) (SE.st (se_repr hgd (hu70 hr) (B _ (by decide : ("repr" : Str) ∈ blts)) (se_def D_turned_less hgd (hr.mono (by decide)) (sa_d (se_var 3) (sa_d (se_var 4) sa_nil))))) (SE.st (se_repr hgd (hu70 hr) (B _ (by decide : ("repr" : Str) ∈ blts)) (se_var 7)))) (sw_or1 (sb_ne (hu70 hr) (SE.st (se_def D_less_chain hgd (hr.mono (by decide)) (sa_d (se_tup (sa_d (se_var 3) (sa_d (se_var 7) sa_nil))) sa_nil))) (SE.st (se_rev (SE.st (se_var 5)))))))) (ss_one (ss_ret se_bl)) ss_nil)
    (ss_cons (ss_if (sb_ne (hu70 hr) (SE.st (se_add (SE.st (se_sub (SE.st (se_sum rfl (B _ (by decide : ("sum" : Str) ∈ blts)) (SE.st (se_var 5)))) (SE.st (se_mul (SE.st se_int) (SE.st (se_len (B _ (by decide : ("len" : Str) ∈ blts)) (SE.st (se_var 5)))))))) (SE.st se_int))) (SE.st (se_len (B _ (by decide : ("len" : Str) ∈ blts)) (SE.st (se_var 6))))) (ss_one (ss_ret se_bl)) ss_nil)
    (ss_cons (ss_if (sb_ne (hu70 hr) (SE.st (se_sub (SE.st (se_sum rfl (B _ (by decide : ("sum" : Str) ∈ blts)) (SE.st (se_var 5)))) (SE.st (se_len (B _ (by decide : ("len" : Str) ∈ blts)) (SE.st (se_var 5)))))) (SE.st (se_sub (SE.st (se_sum rfl (B _ (by decide : ("sum" : Str) ∈ blts)) (SE.st (se_var 6)))) (SE.st (se_len (B _ (by decide : ("len" : Str) ∈ blts)) (SE.st (se_var 6))))))) (ss_one (ss_ret se_bl)) ss_nil)
    (ss_cons (ss_set 8 S.nd (se_sub (SE.st (se_def D_l_pick hgd (hr.mono (by decide)) (sa_src 1 (sa_d se_int sa_nil)))) (SE.st se_int)))
    (ss_cons (ss_set 9 S.nd (se_def D_l_common hgd (hr.mono (by decide)) (sa_d (se_var 8) (sa_d (se_var 3) sa_nil))))
    (ss_cons (ss_set 10 S.nd (se_tup (sa_d (se_fdiv (SE.st (se_var 8)) (SE.st (se_var 9))) (sa_d (se_fdiv (SE.st (se_var 3)) (SE.st (se_var 9))) sa_nil))))
    (ss_cons (ss_set 11 S.nd (se_def D_l_less hgd (hr.mono (by decide)) (sa_d (se_ix (SE.st (se_var 10)) (SE.st se_int)) (sa_d (se_ix (SE.st (se_var 10)) (SE.st se_int)) sa_nil))))
    (ss_cons (ss_if (sb_w (sw_or (sb_ne (hu70 hr) (SE.st (se_repr hgd (hu70 hr) (B _ (by decide : ("repr" : Str) ∈ blts)) (se_def D_less_chain hgd (hr.mono (by decide)) (sa_d (se_var 10) sa_nil)))) (SE.st (se_repr hgd (hu70 hr) (B _ (by decide : ("repr" : Str) ∈ blts)) (se_var 11)))) (sw_or (sb_ne (hu70 hr) (SE.st (se_def D_less_value hgd (hr.mono (by decide)) (sa_d (se_var 11) sa_nil))) (SE.st (se_var 10))) (sw_or1 (sb_ne (hu70 hr) (SF.st (sf_lc rfl S.nd (si_seq (se_sl (SE.st (se_var 11)) (so_some (SE.st se_int)) so_none)) (blkOk_by (own := [("c", 18)]) (by kernel_rfl)) (fun _ _ _ _ _ => (sg_nm 18 S.nd)) (fun _ _ _ _ _ => sts1 (sb_lt (SE.st (se_var 18)) (SE.st se_int))) (fun _ _ _ _ _ => (se_var 18)))) (SF.st (sf_lst sa_nil))))))) (ss_one (ss_ret se_bl)) ss_nil)
    (ss_cons (ss_set 12 S.nd (se_tup (sa_d (se_sub (SE.st (se_def D_l_pick hgd (hr.mono (by decide)) (sa_src 1 (sa_d se_int sa_nil)))) (SE.st se_int)) sa_nil)))
    (ss_cons (ss_set 12 S.nd (se_add (SE.st (se_var 12)) (SE.st (se_tupC (B _ (by decide : ("tuple" : Str) ∈ blts)) (SF.st (sf_lc rfl S.nd (si_rg1 (by rfl) (B _ (by decide : ("range" : Str) ∈ blts)) (se_add (SE.st se_int) (SE.st (se_mul (SE.st se_int) (SE.st (se_def D_l_pick hgd (hr.mono (by decide)) (sa_src 1 (sa_d se_int sa_nil)))))))) (blkOk_by (own := [("turn", 19)]) (by kernel_rfl)) (fun _ _ _ _ _ => (sg_nm 19 S.nd)) (fun _ _ _ _ _ => sts0) (fun _ _ _ _ _ => (se_add (SE.st se_int) (SE.st (se_def D_l_pick hgd (hr.mono (by decide)) (sa_src 1 (sa_d se_int sa_nil))))))))))))
    (ss_cons (ss_tup rfl (sts_nm 13 S.nd (sts_nm 14 S.nd sts_nil)) (sa_d se_int (sa_d se_int sa_nil)))
    (ss_cons (ss_for (fun _ _ z => z.elim) rfl (si_seq (se_rev (SE.st (se_var 12)))) (sg_nm 15 S.nd)
    (ss_one (ss_par 13 14 rfl S.nd (sa_d (se_add (SE.st (se_mul (SE.st (se_var 15)) (SE.st (se_var 13)))) (SE.st (se_var 14))) (sa_d (se_var 13) sa_nil)))))
    (ss_cons (ss_if (sb_ne (hu70 hr) (SE.st (se_repr hgd (hu70 hr) (B _ (by decide : ("repr" : Str) ∈ blts)) (se_def D_less_by_chain hgd (hr.mono (by decide)) (sa_d (se_var 12) sa_nil)))) (SE.st (se_repr hgd (hu70 hr) (B _ (by decide : ("repr" : Str) ∈ blts)) (se_def D_l_less hgd (hr.mono (by decide)) (sa_d (se_var 13) (sa_d (se_var 14) sa_nil)))))) (ss_one (ss_ret se_bl)) ss_nil)
    (ss_cons (ss_set 16 S.nd (se_add (SE.st (se_tup (sa_d (se_sub (SE.st (se_def D_l_pick hgd (hr.mono (by decide)) (sa_src 1 (sa_d se_int sa_nil)))) (SE.st se_int)) sa_nil))) (SE.st (se_tupC (B _ (by decide : ("tuple" : Str) ∈ blts)) (SF.st (sf_lc rfl S.nd (si_rg1 (by rfl) (B _ (by decide : ("range" : Str) ∈ blts)) (se_def D_l_pick hgd (hr.mono (by decide)) (sa_src 1 (sa_d se_int sa_nil)))) (blkOk_by (own := [("turn", 19)]) (by kernel_rfl)) (fun _ _ _ _ _ => (sg_nm 19 S.nd)) (fun _ _ _ _ _ => sts0) (fun _ _ _ _ _ => (se_add (SE.st se_int) (SE.st (se_def D_l_pick hgd (hr.mono (by decide)) (sa_src 1 (sa_d se_int sa_nil))))))))))))
    (ss_cons (ss_par 13 14 rfl S.nd (sa_d (se_ix (SE.st (se_var 16)) (SE.st (se_neg (SE.st se_int)))) (sa_d se_int sa_nil)))
    (ss_cons (ss_for (fun _ _ z => z.elim) rfl (si_seq (se_rev (SE.st (se_sl (SE.st (se_var 16)) so_none (so_some (SE.st (se_neg (SE.st se_int)))))))) (sg_nm 15 S.nd)
    (ss_one (ss_par 13 14 rfl S.nd (sa_d (se_sub (SE.st (se_mul (SE.st (se_var 15)) (SE.st (se_var 13)))) (SE.st (se_var 14))) (sa_d (se_var 13) sa_nil)))))
    (ss_one (ss_if (sb_w (sw_or (sb_ne (hu70 hr) (SE.st (se_repr hgd (hu70 hr) (B _ (by decide : ("repr" : Str) ∈ blts)) (se_def D_less_value hgd (hr.mono (by decide)) (sa_d (se_var 16) sa_nil)))) (SE.st (se_repr hgd (hu70 hr) (B _ (by decide : ("repr" : Str) ∈ blts)) (se_tup (sa_d (se_var 13) (sa_d (se_var 14) sa_nil)))))) (sw_or1 (sb_ne (hu70 hr) (SE.st (se_def D_less_chain hgd (hr.mono (by decide)) (sa_d (se_tup (sa_d (se_var 13) (sa_d (se_var 14) sa_nil))) sa_nil))) (SE.st (se_var 16)))))) (ss_one (ss_ret se_bl)) ss_nil))))))))))))))))))))))))
    (ss_one (ss_ret (se_eq (hu70 hr) (SE.st (se_def D_less_chain hgd (hr.mono (by decide)) (sa_d (se_tup (sa_d se_int (sa_d se_int sa_nil))) sa_nil))) (SE.st (se_tup (sa_d se_int (sa_d se_int sa_nil))))))))
end
end Lk93

set_option Elab.async false
set_option linter.all false
set_option maxRecDepth 100000
set_option maxHeartbeats 4000000
namespace Lk93
/-! ### chains with less, in plain numbers -/
theorem up_lo (p : Int) {q : Int} (h : 0 < q) : 0 ≤ -((-p) / q) * q - p ∧ -((-p) / q) * q - p < q := by
  have h1 := Int.emod_nonneg (-p) (b := q) (by omega)
  have h2 := Int.emod_lt_of_pos (-p) h
  have h3 := Int.mul_ediv_add_emod (-p) q
  have e : -((-p) / q) * q - p = (-p) % q := by grind
  rw [e]
  exact ⟨h1, h2⟩
theorem up_eq {p q k : Int} (h : 0 < q) (h0 : 0 ≤ k * q - p) (h1 : k * q - p < q) : -((-p) / q) = k := by
  have := (Int.ediv_emod_unique (a := -p) (b := q) (q := -k) (r := k * q - p) h).mpr ⟨by grind, h0, h1⟩
  omega
def less (p q : Int) : List Int := if h : 0 < q then (-((-p) / q)) :: less q (-((-p) / q) * q - p) else []
termination_by q.toNat
decreasing_by
  have := up_lo p h
  omega
theorem less_pos {p q : Int} (h : 0 < q) : less p q = (-((-p) / q)) :: less q (-((-p) / q) * q - p) := by
  rw [less, dif_pos h]
theorem less_non {p q : Int} (h : ¬ 0 < q) : less p q = [] := by
  rw [less, dif_neg h]
theorem less_step {p q k : Int} (h : 0 < q) (h0 : 0 ≤ k * q - p) (h1 : k * q - p < q) : less p q = k :: less q (k * q - p) := by
  rw [less_pos h, up_eq h h0 h1]
def lval : List Int → Int × Int
  | [] => (1, 0)
  | c :: r => (c * (lval r).1 - (lval r).2, (lval r).1)
def ge2 (cs : List Int) : Prop := ∀ c ∈ cs, 2 ≤ c
theorem ge2_tail {c : Int} {r : List Int} (h : ge2 (c :: r)) : ge2 r := fun x hx => h x (List.mem_cons_of_mem _ hx)
theorem lval_lt : ∀ {cs : List Int}, ge2 cs → 0 ≤ (lval cs).2 ∧ (lval cs).2 < (lval cs).1
  | [], _ => by decide
  | c :: r, h => by
    obtain ⟨h1, h2⟩ := lval_lt (ge2_tail h)
    have hc := h c List.mem_cons_self
    show 0 ≤ (lval r).1 ∧ (lval r).1 < c * (lval r).1 - (lval r).2
    have : 2 * (lval r).1 ≤ c * (lval r).1 := Int.mul_le_mul_of_nonneg_right hc (by omega)
    omega
theorem less_val : ∀ (r : List Int) (c : Int), ge2 r → less (lval (c :: r)).1 (lval (c :: r)).2 = c :: r
  | r, c, h => by
    obtain ⟨h1, h2⟩ := lval_lt h
    show less (c * (lval r).1 - (lval r).2) (lval r).1 = c :: r
    have e : c * (lval r).1 - (c * (lval r).1 - (lval r).2) = (lval r).2 := by omega
    rw [less_step (k := c) (by omega) (by omega) (by omega), e]
    cases r with
    | nil => rw [show lval [] = (1, 0) from rfl, less_non (by decide)]
    | cons d r => rw [less_val r d (ge2_tail h)]
theorem less_ge2 : ∀ (n : Nat) {p q : Int}, q.toNat ≤ n → q < p → ge2 (less p q)
  | 0, p, q, hn, h => by
    rw [less_non (by omega)]
    intro c hc
    cases hc
  | n + 1, p, q, hn, h => by
    by_cases hq : 0 < q
    · obtain ⟨h0, h1⟩ := up_lo p hq
      rw [less_pos hq]
      intro c hc
      rcases List.mem_cons.mp hc with rfl | hc
      · have : ¬ -((-p) / q) ≤ 1 := fun z => by
          have : -((-p) / q) * q ≤ 1 * q := Int.mul_le_mul_of_nonneg_right z (by omega)
          omega
        omega
      · exact less_ge2 n (by omega) h1 c hc
    · rw [less_non hq]
      intro c hc
      cases hc
theorem less_tail2 {p q : Int} : ge2 (less p q).tail := by
  by_cases hq : 0 < q
  · rw [less_pos hq]
    exact less_ge2 _ (Nat.le_refl _) (up_lo p hq).2
  · rw [less_non hq]
    intro c hc
    cases hc
theorem val_less : ∀ (n : Nat) {p q : Int}, q.toNat ≤ n → 0 < q → Int.gcd p q = 1 → lval (less p q) = (p, q)
  | 0, p, q, hn, h, _ => by omega
  | n + 1, p, q, hn, h, hg => by
    obtain ⟨h0, h1⟩ := up_lo p h
    rw [less_pos h]
    show (-((-p) / q) * (lval (less q (-((-p) / q) * q - p))).1 - (lval (less q (-((-p) / q) * q - p))).2, (lval (less q (-((-p) / q) * q - p))).1) = (p, q)
    have hg2 : Int.gcd q (-((-p) / q) * q - p) = 1 := by
      have e : -((-p) / q) * q - p = -p + q * (-((-p) / q)) := by grind
      rw [e, Int.gcd_add_mul_left_right, Int.gcd_neg, Int.gcd_comm]
      exact hg
    by_cases hr : 0 < -((-p) / q) * q - p
    · rw [val_less n (by omega) hr hg2]
      ext <;> simp
      omega
    · have e : -((-p) / q) * q - p = 0 := by omega
      rw [e] at hg2 ⊢
      rw [less_non (by decide)]
      have : q = 1 := by simp at hg2; omega
      subst this
      ext <;> simp [lval]
      all_goals (try omega)
theorem less_len : ∀ (n : Nat) {p q : Int}, q.toNat ≤ n → (less p q).length ≤ q.toNat
  | 0, p, q, hn => by
    rw [less_non (by omega)]
    exact Nat.zero_le _
  | n + 1, p, q, hn => by
    by_cases hq : 0 < q
    · obtain ⟨h0, h1⟩ := up_lo p hq
      rw [less_pos hq, List.length_cons]
      have := less_len n (p := q) (q := -((-p) / q) * q - p) (by omega)
      omega
    · rw [less_non hq]
      exact Nat.zero_le _
/-! the product of the tables -/
def mat : List Int → Int × Int × Int × Int
  | [] => (1, 0, 0, 1)
  | c :: r => (c * (mat r).1 - (mat r).2.2.1, c * (mat r).2.1 - (mat r).2.2.2, (mat r).1, (mat r).2.1)
theorem mat_val : ∀ r : List Int, lval r = ((mat r).1, (mat r).2.2.1)
  | [] => rfl
  | c :: r => by
    show (c * (lval r).1 - (lval r).2, (lval r).1) = _
    rw [mat_val r]
    rfl
theorem mat_det : ∀ r : List Int, (mat r).1 * (mat r).2.2.2 - (mat r).2.1 * (mat r).2.2.1 = 1
  | [] => by decide
  | c :: r => by
    have ih := mat_det r
    show (c * (mat r).1 - (mat r).2.2.1) * (mat r).2.1 - (c * (mat r).2.1 - (mat r).2.2.2) * (mat r).1 = 1
    grind
theorem mat_app (c : Int) : ∀ r : List Int, mat (r ++ [c]) = ((mat r).1 * c + (mat r).2.1, -(mat r).1, (mat r).2.2.1 * c + (mat r).2.2.2, -(mat r).2.2.1)
  | [] => by simp [mat]
  | d :: r => by
    show mat (d :: (r ++ [c])) = _
    simp only [mat, mat_app c r]
    refine Prod.ext ?_ (Prod.ext ?_ (Prod.ext ?_ ?_)) <;> simp only [] <;> grind
theorem mat_rev : ∀ r : List Int, mat r.reverse = ((mat r).1, -(mat r).2.2.1, -(mat r).2.1, (mat r).2.2.2)
  | [] => rfl
  | c :: r => by
    rw [List.reverse_cons, mat_app, mat_rev r]
    simp only [mat]
    refine Prod.ext ?_ (Prod.ext ?_ (Prod.ext ?_ ?_)) <;> simp only [] <;> grind
theorem ge2_rev {r : List Int} (h : ge2 r) : ge2 r.reverse := fun c hc => h c (List.mem_reverse.mp hc)
/-- the turned chain: the same top, a bottom that undoes the first -/
theorem turned {n k : Int} (hk : 0 < k) (hn : k < n) (hg : Int.gcd n k = 1) : ∃ j : Int, lval (less n k).reverse = (n, j) ∧ 0 < j ∧ j < n ∧ j * k % n = 1 % n ∧ less n j = (less n k).reverse := by
  have h2 := less_ge2 _ (Nat.le_refl _) hn
  have hv := val_less _ (Nat.le_refl _) hk hg
  have hr := ge2_rev h2
  obtain ⟨l1, l2⟩ := lval_lt hr
  have hne : (less n k).reverse ≠ [] := by
    rw [less_pos hk]
    simp
  obtain ⟨c, r, hcr⟩ := List.exists_cons_of_ne_nil hne
  have hlast := less_val r c (by rw [hcr] at hr; exact ge2_tail hr)
  rw [← hcr] at hlast
  have hdet := mat_det (less n k)
  rw [mat_val] at hv
  have hv1 : (mat (less n k)).1 = n := congrArg Prod.fst hv
  have hv2 : (mat (less n k)).2.2.1 = k := congrArg Prod.snd hv
  have e : lval (less n k).reverse = (n, -(mat (less n k)).2.1) := by
    rw [mat_val, mat_rev, hv1]
  rw [e] at l1 l2 hlast
  rw [hv1, hv2] at hdet
  have l1 : 0 ≤ -(mat (less n k)).2.1 := l1
  have l2 : -(mat (less n k)).2.1 < n := l2
  have key : -(mat (less n k)).2.1 * k = 1 + n * (-(mat (less n k)).2.2.2) := by grind
  refine ⟨_, e, ?_, l2, ?_, hlast⟩
  · by_cases h0 : -(mat (less n k)).2.1 = 0
    · rw [h0] at key
      have : n * (mat (less n k)).2.2.2 = 1 := by grind
      have := Int.le_of_dvd (a := n) (b := 1) (by decide) ⟨_, this.symm⟩
      omega
    · omega
  · rw [key, Int.add_mul_emod_self_left]
/-! the chain of what is left -/
theorem dual : ∀ (m : Nat) {n k : Int}, n.toNat ≤ m → 0 < k → k < n →
    (less n k).sum + 1 = 2 * (less n k).length + (less n (n - k)).length ∧ (less n (n - k)).sum + 1 = 2 * (less n (n - k)).length + (less n k).length
  | 0, n, k, hm, hk, hn => by omega
  | m + 1, n, k, hm, hk, hn => by
    have small : ∀ {k : Int}, 0 < k → k < n - k →
        (less n k).sum + 1 = 2 * (less n k).length + (less n (n - k)).length ∧ (less n (n - k)).sum + 1 = 2 * (less n (n - k)).length + (less n k).length := by
      intro k hk h
      have ih := dual m (n := n - k) (k := k) (by omega) hk h
      obtain ⟨h0, h1⟩ := up_lo n hk
      have e1 : (-((-n) / k) - 1) * k - (n - k) = -((-n) / k) * k - n := by grind
      have c1 : less (n - k) k = (-((-n) / k) - 1) :: less k (-((-n) / k) * k - n) := by
        rw [less_step (k := -((-n) / k) - 1) hk (by omega) (by omega), e1]
      have c : less n k = -((-n) / k) :: less k (-((-n) / k) * k - n) := less_pos hk
      have o : less n (n - k) = 2 :: less (n - k) (n - k - k) := by
        rw [less_step (k := 2) (by omega) (by omega) (by omega)]
        congr 2
        omega
      rw [c1] at ih
      rw [c, o]
      simp only [List.sum_cons, List.length_cons] at ih ⊢
      omega
    by_cases h1 : k < n - k
    · exact small hk h1
    · by_cases h2 : n - k < k
      · have := small (k := n - k) (by omega) (by omega)
        rw [show n - (n - k) = k by omega] at this
        exact ⟨this.2, this.1⟩
      · have e : n - k = k := by omega
        rw [e]
        have c : less n k = [2] := by
          rw [less_step (k := 2) hk (by omega) (by omega), less_non (by omega)]
        rw [c]
        decide
/-! chains with plus -/
def rval : List Int → Int × Int
  | [] => (1, 0)
  | c :: r => (c * (rval r).1 + (rval r).2, (rval r).1)
/-- what stands for the pairs behind the first -/
def ups : List Int → List Int
  | a :: b :: r => (a + 2) :: (List.replicate (b - 1).toNat 2 ++ ups r)
  | _ => []
theorem lval_twos : ∀ (j : Nat) (L : List Int), lval (List.replicate j 2 ++ L) = ((lval L).1 + j * ((lval L).1 - (lval L).2), (lval L).2 + j * ((lval L).1 - (lval L).2))
  | 0, L => by simp
  | j + 1, L => by
    show (2 * (lval (List.replicate j 2 ++ L)).1 - (lval (List.replicate j 2 ++ L)).2, (lval (List.replicate j 2 ++ L)).1) = _
    rw [lval_twos j L]
    refine Prod.ext ?_ ?_ <;> simp only [] <;> grind
theorem lval_ups : ∀ (r : List Int), r.length % 2 = 0 → (∀ x ∈ r, 1 ≤ x) → lval (ups r) = ((rval r).1 + (rval r).2, (rval r).2)
  | [], _, _ => rfl
  | [a], h, _ => by simp at h
  | a :: b :: r, h, hp => by
    have ih := lval_ups r (by simp only [List.length_cons] at h; omega) fun x hx => hp x (by simp [hx])
    have hb := hp b (by simp)
    have ej : (((b - 1).toNat : Nat) : Int) = b - 1 := by omega
    simp only [ups, lval, rval]
    rw [lval_twos, ih, ej]
    refine Prod.ext ?_ ?_ <;> simp only [] <;> grind
theorem lval_up {a b : Int} {r : List Int} (h : r.length % 2 = 0) (hp : ∀ x ∈ b :: r, 1 ≤ x) : lval ((a + 1) :: (List.replicate (b - 1).toNat 2 ++ ups r)) = rval (a :: b :: r) := by
  have ih := lval_ups r h fun x hx => hp x (by simp [hx])
  have hb := hp b (by simp)
  have ej : (((b - 1).toNat : Nat) : Int) = b - 1 := by omega
  simp only [lval, rval]
  rw [lval_twos, ih, ej]
  refine Prod.ext ?_ ?_ <;> simp only [] <;> grind
theorem ups_ge2 : ∀ (r : List Int), (∀ x ∈ r, 1 ≤ x) → ge2 (ups r)
  | [], _ => fun c hc => by cases hc
  | [a], _ => fun c hc => by cases hc
  | a :: b :: r, hp => by
    have ih := ups_ge2 r fun x hx => hp x (by simp [hx])
    have ha := hp a (by simp)
    intro c hc
    simp only [ups, List.mem_cons, List.mem_append, List.mem_replicate] at hc
    rcases hc with rfl | ⟨_, rfl⟩ | hc
    · omega
    · omega
    · exact ih c hc
theorem less_ups {a b : Int} {r : List Int} (h : r.length % 2 = 0) (hp : ∀ x ∈ b :: r, 1 ≤ x) : less (rval (a :: b :: r)).1 (rval (a :: b :: r)).2 = (a + 1) :: (List.replicate (b - 1).toNat 2 ++ ups r) := by
  rw [← lval_up h hp]
  refine less_val _ _ fun c hc => ?_
  rcases List.mem_append.mp hc with hc | hc
  · have := List.mem_replicate.mp hc
    omega
  · exact ups_ge2 r (fun x hx => hp x (by simp [hx])) c hc
end Lk93

set_option Elab.async false
set_option linter.all false
set_option maxRecDepth 100000
set_option maxHeartbeats 4000000
namespace Lk93
open PySem PySem.Spec L2 Sm
theorem divOkP {q : Int} (h : 0 < q) (h2 : q ≤ 16000000) : divOk q = true := divOk_s (by omega) (by omega) (by omega)
theorem mulOkP (k : Int) {q : Int} (h : 0 < q) (h2 : q ≤ 16000000) : mulOk k q = true := mulOk_r _ (by omega) (by omega)
/-! the draw -/
theorem pick_ev {n : Int} (h1 : 1 ≤ n) (h2 : n ≤ 16000000) (s : Ss) : ∃ r s', F_l_pick [.src, .d (.int n)] s = some (.int r, s') ∧ 0 ≤ r ∧ r < n := by
  have hd := divOkP (q := n) (by omega) h2
  have b0 : ∀ x : Int, 0 ≤ x.fmod n ∧ x.fmod n < n := fun x => ⟨Int.fmod_nonneg_of_pos _ (by omega), Int.fmod_lt_of_pos _ (by omega)⟩
  by_cases hn : n < 2
  · refine ⟨0, s, ?_, by omega, by omega⟩
    simp [F_l_pick, fnV_run, b_l_pick, hn]
  · have hn0 : n ≠ 0 := by omega
    by_cases hl : 1 < (popS s).left
    · refine ⟨(popS s).left.fmod n, { popS s with left := (popS s).left.fdiv n }, ?_, b0 _⟩
      simp [F_l_pick, fnV_run, b_l_pick, hn, sPops, eSg, sSp, spF, Fld.get, Fld.put, hl, hd, hn0]
    · have m1 : ∀ t : Int, mulOk t 104729 = true := fun t => mulOk_r _ (by decide) (by decide)
      have m2 : ∀ t : Int, mulOk t 17 = true := fun t => mulOk_r _ (by decide) (by decide)
      have m3 : ∀ t : Int, mulOk (t.fmod 998244353) (t.fmod 998244353) = true := fun t => by
        have := Int.fmod_nonneg_of_pos t (b := 998244353) (by decide)
        have := Int.fmod_lt_of_pos t (b := 998244353) (by decide)
        exact mulOk_r _ (by omega) (by omega)
      have d1 : divOk 16 = true := by decide
      refine ⟨Int.fmod (Int.fdiv (Int.fmod (Int.fmod ((popS s).mixed + ((popS s).turn + 1) * 104729) 998244353 * Int.fmod ((popS s).mixed + ((popS s).turn + 1) * 104729) 998244353 + ((popS s).turn + 1) * 17) 2147483647) 16) n, { popS s with turn := (popS s).turn + 1 }, ?_, b0 _⟩
      simp [F_l_pick, fnV_run, b_l_pick, hn, sPops, eSg, sSp, spF, Fld.get, Fld.put, hl, hd, hn0, m1, m2, m3, d1]
/-! the divisor -/
theorem common_loop (s : Ss) : ∀ (m b a : Nat), b ≤ m → sWhile (bV (eBin gtI (eVar 1) (eC (.int 0)))) (sTup [.nm 0, .nm 1] (aD (eVar 1) (aD (eBin modI (eUn intD (eVar 0)) (eVar 1)) aNil)))
    [some (.d (.int a)), some (.d (.int b))] s = some (.nx [some (.d (.int (Nat.gcd a b))), some (.d (.int 0))], s)
  | m, 0, a, _ => by
    rw [sWhile_run]
    simp
  | 0, b + 1, a, h => by omega
  | m + 1, b + 1, a, h => by
    rw [sWhile_run]
    have e : ((a : Int).fmod ((b : Int) + 1)) = ((a % (b + 1) : Nat) : Int) := by
      rw [fmodP _ (by omega)]
      simp
    have hb : ¬ ((b : Int) + 1 = 0) := by omega
    have hp : (0 : Int) < (b : Int) + 1 := by omega
    have hm : a % (b + 1) < b + 1 := Nat.mod_lt a (by omega)
    have ih := common_loop s m (a % (b + 1)) (b + 1) (by omega)
    simp [datsV, hb, hp, e]
    rw [show Nat.gcd a (b + 1) = Nat.gcd (b + 1) (a % (b + 1)) from by rw [Nat.gcd_comm, Nat.gcd_rec, Nat.gcd_comm]]
    simpa using ih
theorem common_ev (a b : Int) (s : Ss) : F_l_common [.d (.int a), .d (.int b)] s = some (.int (Int.gcd a b), s) := by
  have h := common_loop s b.natAbs b.natAbs a.natAbs (Nat.le_refl _)
  have e : ∀ x : Int, (if x < 0 then -x else x) = (x.natAbs : Int) := fun x => by split <;> omega
  simp [F_l_common, fnV_run, b_l_common, b_l_common_1, e, h, Int.gcd]
/-! chains -/
theorem lless_loop (s : Ss) : ∀ (m : Nat) (p q : Int) (acc : List Int) (x3 : Option Vl), q.toNat ≤ m → acc.length + q.toNat ≤ 16000000 → ∃ p' q' x3', sWhile (bV (eBin gtI (eVar 1) (eC (.int 0))))
    (sSeq (sSet 3 (eBin subI (eC (.int 0)) (eBin fdivI (eBin subI (eC (.int 0)) (eVar 0)) (eVar 1))))
    (sSeq (sApp 2 (eVar 3))
    (sTup [.nm 0, .nm 1] (aD (eVar 1) (aD (eBin subI (eBin mulD (eVar 3) (eVar 1)) (eVar 0)) aNil)))))
    [some (.d (.int p)), some (.d (.int q)), some (.own (.list (numD acc))), x3] s = some (.nx [p', q', some (.own (.list (numD (acc ++ less p q)))), x3'], s) := by
  intro m
  induction m with
  | zero =>
    intro p q acc x3 hm _
    rw [sWhile_run, less_non (by omega)]
    have : ¬ 0 < q := by omega
    simp [this]
  | succ m ih =>
    intro p q acc x3 hm hl
    rw [sWhile_run]
    by_cases hq : 0 < q
    · obtain ⟨h0, h1⟩ := up_lo p hq
      have hd := divOkP hq (by omega)
      have hmul := mulOkP (-(-p / q)) hq (by omega)
      obtain ⟨p', q', x', e⟩ := ih q (-(-p / q) * q - p) (acc ++ [-(-p / q)]) (some (.d (.int (-(-p / q))))) (by omega) (by simp; omega)
      refine ⟨p', q', x', ?_⟩
      rw [less_pos hq]
      have hlen : acc.length < 16000000 := by omega
      simp [hq, hd, fdivP _ hq, appF, numD_len, hlen, hmul]
      simpa [numD_app] using e
    · rw [less_non hq]
      simp [hq]
theorem lless_ev (p q : Int) (h : q ≤ 16000000) (s : Ss) : F_l_less [.d (.int p), .d (.int q)] s = some (.tuple (numD (less p q)), s) := by
  obtain ⟨p', q', x', e⟩ := lless_loop s q.toNat p q [] none (Nat.le_refl _) (by simp; omega)
  simp only [numD_nil, List.nil_append] at e
  simp [F_l_less, fnV_run, b_l_less, b_l_less_1, datsV, e]
theorem chain_loop (s : Ss) (x0 : Option Vl) : ∀ (m : Nat) (p q : Int) (acc : List Int) (x4 : Option Vl), q.toNat ≤ m → acc.length + q.toNat ≤ 16000000 → ∃ p' q' x4', sWhile (bV (eBin gtI (eVar 2) (eC (.int 0))))
    (sSeq (sSet 4 (eUn negI (eBin fdivI (eUn negI (eVar 1)) (eVar 2))))
    (sSeq (sApp 3 (eVar 4))
    (sTup [.nm 1, .nm 2] (aD (eVar 2) (aD (eBin subI (eBin mulD (eVar 4) (eVar 2)) (eVar 1)) aNil)))))
    [x0, some (.d (.int p)), some (.d (.int q)), some (.own (.list (numD acc))), x4] s = some (.nx [x0, p', q', some (.own (.list (numD (acc ++ less p q)))), x4'], s) := by
  intro m
  induction m with
  | zero =>
    intro p q acc x3 hm _
    rw [sWhile_run, less_non (by omega)]
    have : ¬ 0 < q := by omega
    simp [this]
  | succ m ih =>
    intro p q acc x3 hm hl
    rw [sWhile_run]
    by_cases hq : 0 < q
    · obtain ⟨h0, h1⟩ := up_lo p hq
      have hd := divOkP hq (by omega)
      have hmul := mulOkP (-(-p / q)) hq (by omega)
      obtain ⟨p', q', x', e⟩ := ih q (-(-p / q) * q - p) (acc ++ [-(-p / q)]) (some (.d (.int (-(-p / q))))) (by omega) (by simp; omega)
      refine ⟨p', q', x', ?_⟩
      rw [less_pos hq]
      have hlen : acc.length < 16000000 := by omega
      simp [hq, hd, fdivP _ hq, appF, numD_len, hlen, hmul]
      simpa [numD_app] using e
    · rw [less_non hq]
      simp [hq]
theorem chain_ev (p q : Int) (h : q ≤ 16000000) (s : Ss) : F_less_chain [.d (.tuple [.int p, .int q])] s = some (.tuple (numD (less p q)), s) := by
  obtain ⟨p', q', x', e⟩ := chain_loop s (some (.d (.tuple [.int p, .int q]))) q.toNat p q [] none (Nat.le_refl _) (by simp; omega)
  simp only [numD_nil, List.nil_append] at e
  simp [F_less_chain, fnV_run, b_less_chain, b_less_chain_1, datsV, e]
theorem rest_ev (n k : Int) (h : n - k ≤ 16000000) (s : Ss) : F_rest_chain [.d (.int n), .d (.int k)] s = some (.tuple (numD (less n (n - k))), s) := by
  simp [F_rest_chain, fnV_run, b_rest_chain, datsV, chain_ev _ _ h]
/-! the bottoms -/
theorem bottom_loop (s : Ss) (x0 : Option Vl) (n : Int) : ∀ (m : Nat) (k : Int), k.toNat ≤ m → 1 ≤ k → ∃ k', 1 ≤ k' ∧ k' ≤ k ∧ Int.gcd n k' = 1 ∧
    sWhile (bV (eBin gtI (eCall 2 F_l_common (aD (eVar 1) (aD (eVar 2) aNil))) (eC (.int 1)))) (sSet 2 (eBin subI (eVar 2) (eC (.int 1))))
      [x0, some (.d (.int n)), some (.d (.int k))] s = some (.nx [x0, some (.d (.int n)), some (.d (.int k'))], s)
  | 0, k, h, h1 => by omega
  | m + 1, k, h, h1 => by
    rw [sWhile_run]
    by_cases hg : (1 : Int) < Int.gcd n k
    · have hk : 2 ≤ k := by
        by_cases e : k = 1
        · subst e
          simp at hg
        · omega
      obtain ⟨k', a1, a2, a3, e⟩ := bottom_loop s x0 n m (k - 1) (by omega) (by omega)
      refine ⟨k', a1, by omega, a3, ?_⟩
      simp [common_ev, hg, e]
    · have : Int.gcd n k ≠ 0 := fun z => by
        have := Int.gcd_eq_zero_iff.mp z
        omega
      refine ⟨k, h1, Int.le_refl _, by omega, ?_⟩
      simp [common_ev, hg]
theorem bottom_ev (s : Ss) : ∃ n k s', F_l_bottom [.src] s = some (.tuple [.int n, .int k], s') ∧ 1 ≤ k ∧ k < n ∧ n ≤ 1901 ∧ Int.gcd n k = 1 := by
  obtain ⟨r1, s1, e1, a1, b1⟩ := pick_ev (n := 3) (by decide) (by decide) s
  have hv : ∃ v : Int, getD (.list [.int 10, .int 60, .int 1900]) (.int r1) = some (.int v) ∧ 1 ≤ v ∧ v ≤ 1900 := by
    have : r1 = 0 ∨ r1 = 1 ∨ r1 = 2 := by omega
    rcases this with rfl | rfl | rfl
    · exact ⟨10, rfl, by decide, by decide⟩
    · exact ⟨60, rfl, by decide, by decide⟩
    · exact ⟨1900, rfl, by decide, by decide⟩
  obtain ⟨v, ev, hv1, hv2⟩ := hv
  obtain ⟨r2, s2, e2, a2, b2⟩ := pick_ev hv1 (by omega) s1
  obtain ⟨r3, s3, e3, a3, b3⟩ := pick_ev (n := 2 + r2 - 1) (by omega) (by omega) s2
  obtain ⟨k, k1, k2, k3, e4⟩ := bottom_loop s3 (some .src) (2 + r2) (1 + r3).toNat (1 + r3) (Nat.le_refl _) (by omega)
  refine ⟨2 + r2, k, s3, ?_, k1, by omega, by omega, k3⟩
  simp [F_l_bottom, fnV_run, b_l_bottom, b_l_bottom_1, datsV, e1, ev, e2, e3, e4]
/-! the steps -/
theorem up_ev (a b : Int) (s : Ss) (h : 0 < b) (h2 : b ≤ 16000000) : F_up_step [.d (.int a), .d (.int b)] s = some (.tuple [.int (-((-a) / b)), .int (-((-a) / b) * b - a)], s) := by
  have hd := divOkP h h2
  have hm := mulOkP (-((-a) / b)) h h2
  simp [F_up_step, fnV_run, b_up_step, datsV, hd, fdivP _ h, hm]
theorem str1 : (("up" : Str) == "down") = false := by decide +kernel
theorem str2 : (("up" : Str) == "near") = false := by decide +kernel
theorem str3 : ninB (.str "up") (.tuple [.str "down", .str "near", .str "up"]) = some (.bool false) := by
  kernel_rfl
theorem one_ev (a b : Int) (s : Ss) (h : 0 < b) (h2 : b ≤ 16000000) : F_one_step [.d (.str "up"), .d (.int a), .d (.int b)] s = some (.tuple [.int (-((-a) / b)), .int (-((-a) / b) * b - a)], s) := by
  simp [F_one_step, fnV_run, b_one_step, str1, str2, up_ev a b s h h2]
theorem steps_loop (s : Ss) : ∀ (m : Nat) (p q : Int) (ds : List D), q.toNat ≤ m → ds.length + q.toNat ≤ 16000000 → ∃ p' q' es, es.length = ds.length + (less p q).length ∧ sWhile (bV (eBin gtI (eVar 2) (eC (.int 0))))
    (sSeq (sApp 3 (eCall 3 F_one_step (aD (eVar 0) (aD (eVar 1) (aD (eVar 2) aNil)))))
    (sTup [.nm 1, .nm 2] (aD (eVar 2) (aD (eBin getD (eBin getD (eOwn 3) (eUn negI (eC (.int 1)))) (eC (.int 1))) aNil))))
    [some (.d (.str "up")), some (.d (.int p)), some (.d (.int q)), some (.own (.list ds))] s = some (.nx [some (.d (.str "up")), p', q', some (.own (.list es))], s) := by
  intro m
  induction m with
  | zero =>
    intro p q ds hm _
    refine ⟨some (.d (.int p)), some (.d (.int q)), ds, ?_, ?_⟩
    · rw [less_non (by omega)]
      rfl
    · rw [sWhile_run]
      have : ¬ 0 < q := by omega
      simp [this]
  | succ m ih =>
    intro p q ds hm hl
    rw [sWhile_run]
    by_cases hq : 0 < q
    · obtain ⟨h0, h1⟩ := up_lo p hq
      obtain ⟨p', q', es, el, e⟩ := ih q (-(-p / q) * q - p) (ds ++ [.tuple [.int (-(-p / q)), .int (-(-p / q) * q - p)]]) (by omega) (by simp; omega)
      refine ⟨p', q', es, ?_, ?_⟩
      · rw [less_pos hq, el]
        simp
        omega
      have hlen : ds.length < 16000000 := by omega
      have g1 : getD (.list (ds ++ [.tuple [.int (-(-p / q)), .int (-(-p / q) * q - p)]])) (.int (-1)) = some (.tuple [.int (-(-p / q)), .int (-(-p / q) * q - p)]) := Sm.atI_last _ _
      have g2 : getD (.tuple [.int (-(-p / q)), .int (-(-p / q) * q - p)]) (.int 1) = some (.int (-(-p / q) * q - p)) := rfl
      simp [hq, one_ev p q s hq (by omega), appF, hlen, g1, g2]
      exact e
    · rw [less_non hq]
      refine ⟨some (.d (.int p)), some (.d (.int q)), ds, rfl, ?_⟩
      simp [hq]
theorem count_ev (p q : Int) (h : q ≤ 16000000) (s : Ss) : F_count_steps [.d (.str "up"), .d (.int p), .d (.int q)] s = some (.int (less p q).length, s) := by
  obtain ⟨p', q', es, el, e⟩ := steps_loop s q.toNat p q [] (Nat.le_refl _) (by simp; omega)
  simp only [List.length_nil, Nat.zero_add] at el
  have e2 : F_euclid_steps [.d (.str "up"), .d (.int p), .d (.int q)] s = some (.tuple es, s) := by
    simp [F_euclid_steps, fnV_run, b_euclid_steps, b_euclid_steps_1, datsV, str3, e]
  simp [F_count_steps, fnV_run, b_count_steps, e2, el]
/-! the value -/
theorem val_loop (s : Ss) (x0 : Option Vl) : ∀ (L suf : List Int) (x3 : Option Vl), (∀ c ∈ L, -(2 ^ 64) < c ∧ c < 2 ^ 64) → ∃ x3', forL (asg1 (some 3) []) (sTup [.nm 1, .nm 2] (aD (eBin subI (eBin mulD (eVar 3) (eVar 1)) (eVar 2)) (aD (eVar 1) aNil)))
    (numD L) [x0, some (.d (.int (lval suf).1)), some (.d (.int (lval suf).2)), x3] s = some (.nx [x0, some (.d (.int (lval (L.reverse ++ suf)).1)), some (.d (.int (lval (L.reverse ++ suf)).2)), x3'], s)
  | [], suf, x3, _ => ⟨x3, rfl⟩
  | c :: L, suf, x3, h => by
    obtain ⟨x3', e⟩ := val_loop s x0 L (c :: suf) (some (.d (.int c))) fun d hd => h d (List.mem_cons_of_mem _ hd)
    obtain ⟨c1, c2⟩ := h c List.mem_cons_self
    have hm := mulOk_l (i := c) (lval suf).1 c1 c2
    refine ⟨x3', ?_⟩
    rw [numD_cons, forL_cons]
    simp [hm]
    rw [List.append_cons] at e
    simpa [lval] using e
theorem snoc {cs : List Int} (h : cs ≠ []) : ∃ init last, cs = init ++ [last] := ⟨cs.dropLast, cs.getLast h, (List.dropLast_concat_getLast h).symm⟩
theorem value_ev (cs : List Int) (hne : cs ≠ []) (h : ∀ c ∈ cs, -(2 ^ 64) < c ∧ c < 2 ^ 64) (s : Ss) : F_less_value [.d (.tuple (numD cs))] s = some (.tuple [.int (lval cs).1, .int (lval cs).2], s) := by
  obtain ⟨init, last, rfl⟩ := snoc hne
  obtain ⟨x3, e⟩ := val_loop s (some (.d (.tuple (numD (init ++ [last]))))) init.reverse [last] none fun c hc => h c (by simp at hc ⊢; exact .inl hc)
  have g1 : getD (.tuple (numD (init ++ [last]))) (.int (-1)) = some (.int last) := by
    rw [numD_app]
    exact Sm.atI_last _ _
  have g2 : (cutD (numD (init ++ [last])) none (some (-1))) = numD init := by
    rw [cut_init, numD_app]
    simp
  simp only [List.reverse_reverse] at e
  simp [F_less_value, fnV_run, b_less_value, b_less_value_1, datsV, g1, g2, numD_rev]
  simp only [lval, Int.mul_one, Int.sub_zero] at e
  rw [e]
  simp [datsV]
end Lk93

set_option Elab.async false
set_option linter.all false
set_option maxRecDepth 100000
set_option maxHeartbeats 4000000
namespace Lk93
open PySem PySem.Spec L2 Sm
theorem rng_two (m : Nat) (h : m < 2 ^ 30) : rng3 (.int 0) (.int ((2 * m : Nat) : Int)) (.int 2) = some ((List.range m).map fun (k : Nat) => PyData.int ((2 * k : Nat) : Int)) := by
  have hs : Builtin.Range.rangeSize 0 ((2 * m : Nat) : Int) 2 = (m : Int) := by
    unfold Builtin.Range.rangeSize
    rw [if_pos (by decide)]
    by_cases hm : m = 0
    · subst hm; rfl
    · rw [if_pos (by omega)]
      omega
  have e : rng3 (.int 0) (.int ((2 * m : Nat) : Int)) (.int 2) = some (rng3L 0 ((2 * m : Nat) : Int) 2) := rng3_ok (by decide) (by decide) (by decide) (by omega)
  refine e.trans ?_
  show some ((List.range (Builtin.Range.rangeSize 0 ((2 * m : Nat) : Int) 2).toNat).map fun (k : Nat) => PyData.int (0 + k * 2)) = _
  rw [hs, Int.toNat_natCast]
  refine congrArg some (List.map_congr_left fun k _ => congrArg PyData.int ?_)
  omega
abbrev upB : Ev → M Out := (sSeq (sApp 1 (eBin addD (eBin getD (eVar 2) (eVar 3)) (eIf (bV (eBin eqB (eVar 3) (eC (.int 0)))) (eC (.int 1)) (eC (.int 2)))))
    (sExt 1 (eBin mulD (eLst (aD (eC (.int 2)) aNil)) (eBin subI (eBin getD (eVar 2) (eBin addD (eVar 3) (eC (.int 1)))) (eC (.int 1))))))
theorem flat_two (n : Nat) : (List.replicate n [PyData.int 2]).flatten = numD (List.replicate n 2) := by
  induction n with
  | zero => rfl
  | succ n ih => rw [List.replicate_succ, List.flatten_cons, ih]; rfl
/-- one turn -/
theorem up_turn (s : Ss) (x0 x3 : Option Vl) (cs pre r acc : List Int) (a b : Int) (j : Nat) (hc : cs = pre ++ a :: b :: r) (hj : pre.length = 2 * j) (hb : 1 ≤ b) (hb2 : b ≤ 1000) (hl : acc.length + 1001 ≤ 16000000) :
    upB [x0, some (.own (.list (numD acc))), some (.d (.tuple (numD cs))), some (.d (.int ((2 * j : Nat) : Int)))] s =
      some (.nx [x0, some (.own (.list (numD (acc ++ (a + (if j = 0 then 1 else 2)) :: List.replicate (b - 1).toNat 2)))), some (.d (.tuple (numD cs))), some (.d (.int ((2 * j : Nat) : Int)))], s) := by
  have g1 : getD (.tuple (numD cs)) (.int ((2 * j : Nat) : Int)) = some (.int a) := by
    refine Sm.atI_nat ?_
    rw [numD_get, hc, ← hj, List.getElem?_append_right (Nat.le_refl _)]
    simp
  have g2 : getD (.tuple (numD cs)) (.int (((2 * j : Nat) : Int) + 1)) = some (.int b) := by
    have : (((2 * j : Nat) : Int) + 1) = ((2 * j + 1 : Nat) : Int) := by omega
    rw [this]
    refine Sm.atI_nat ?_
    rw [numD_get, hc, ← hj, List.getElem?_append_right (by omega)]
    simp
  have hn : (b - 1).toNat ≤ 999 := by omega
  have e2 : mulD (.list [.int 2]) (.int (b - 1)) = some (.list (numD (List.replicate (b - 1).toNat 2))) := by
    rw [← flat_two]
    show (if b - 1 < 2 ^ 63 ∧ -(2 ^ 63) ≤ b - 1 ∧ [PyData.int 2].length * (b - 1).toNat ≤ LIM then some (PyData.list (List.replicate (b - 1).toNat [PyData.int 2]).flatten) else none) = _
    rw [if_pos ⟨by omega, by omega, by simp; omega⟩]
  have hl1 : acc.length < 16000000 := by omega
  have hl2 : acc.length + 1 + (b.toNat - 1) ≤ 16000000 := by omega
  have ej : (((2 * j : Nat) : Int) == 0) = decide (j = 0) := by
    rw [Bool.eq_iff_iff]
    simp
    omega
  by_cases h0 : j = 0
  · subst h0
    simp at g1 g2 ej
    simp [g1, g2, e2, appF, extF, numD_len, hl1, hl2, numD_app, datsV]
  · have e0 : ¬ ((2 * (j : Int)) = 0) := by omega
    simp at g1 g2
    simp [g1, g2, e2, appF, extF, numD_len, hl1, hl2, numD_app, datsV, h0, e0]
theorem up_loop (s : Ss) (x0 : Option Vl) (cs : List Int) : ∀ (r pre acc : List Int) (j t : Nat) (x3 : Option Vl), cs = pre ++ r → pre.length = 2 * j → 1 ≤ j → r.length = 2 * t → (∀ x ∈ r, 1 ≤ x ∧ x ≤ 1000) → acc.length + 1001 * r.length ≤ 16000000 →
    ∃ x3', forL (asg1 (some 3) []) upB ((List.range' j t).map fun (k : Nat) => PyData.int ((2 * k : Nat) : Int)) [x0, some (.own (.list (numD acc))), some (.d (.tuple (numD cs))), x3] s =
      some (.nx [x0, some (.own (.list (numD (acc ++ ups r)))), some (.d (.tuple (numD cs))), x3'], s)
  | [], pre, acc, j, t, x3, _, _, _, ht, _, _ => by
    have : t = 0 := by simp at ht; omega
    subst this
    refine ⟨x3, ?_⟩
    simp [ups]
  | [a], pre, acc, j, t, x3, _, _, _, ht, _, _ => by simp at ht; omega
  | a :: b :: r, pre, acc, j, t, x3, hc, hj, h1, ht, hx, hl => by
    obtain ⟨t, rfl⟩ : ∃ u, t = u + 1 := ⟨t - 1, by simp at ht; omega⟩
    simp only [List.length_cons] at ht hl
    obtain ⟨b1, b2⟩ := hx b (by simp)
    have e1 := up_turn s x0 (some (.d (.int ((2 * j : Nat) : Int)))) cs pre r acc a b j hc hj b1 b2 (by omega)
    rw [if_neg (by omega)] at e1
    have hlen : (acc ++ (a + 2) :: List.replicate (b - 1).toNat 2).length ≤ acc.length + 1001 := by simp; omega
    obtain ⟨x3', e2⟩ := up_loop s x0 cs r (pre ++ [a, b]) (acc ++ (a + 2) :: List.replicate (b - 1).toNat 2) (j + 1) t (some (.d (.int ((2 * j : Nat) : Int)))) (by simp [hc]) (by simp; omega) (by omega) (by omega) (fun x h => hx x (by simp [h])) (by omega)
    refine ⟨x3', ?_⟩
    rw [List.range'_succ, List.map_cons, forL_cons, asg1_i, ofO_run_some, rb_some]
    simp only [List.set_cons_succ, List.set_cons_zero]
    rw [e1]
    simp only [rb_some, onx_nx]
    rw [e2]
    simp [ups]
theorem odd_ev (cs : List Int) (t : Nat) (hlen : cs.length = 2 * (t + 1)) (s : Ss) : F_odd_chain [.d (.tuple (numD cs))] s = some (.tuple (numD cs), s) := by
  have hm : (cs.length : Int).fmod 2 = 0 := by
    rw [fmodP _ (by decide)]
    omega
  simp [F_odd_chain, fnV_run, b_odd_chain, numD_len, hm]
theorem up_full (cs : List Int) (a b : Int) (r : List Int) (hcs : cs = a :: b :: r) (t : Nat) (ht : r.length = 2 * t) (hl : r.length ≤ 1000) (hx : ∀ x ∈ b :: r, 1 ≤ x ∧ x ≤ 1000) (s : Ss) : ∃ x3', forL (asg1 (some 3) []) upB ((List.range (t + 1)).map fun (k : Nat) => PyData.int ((2 * k : Nat) : Int)) [some (.d (.tuple (numD cs))), some (.own (.list (numD []))), some (.d (.tuple (numD cs))), none] s =
      some (.nx [some (.d (.tuple (numD cs))), some (.own (.list (numD ((a + 1) :: List.replicate (b - 1).toNat 2 ++ ups r)))), some (.d (.tuple (numD cs))), x3'], s) := by
  obtain ⟨b1, b2⟩ := hx b (by simp)
  have h0 : ([] : List Int).length + 1001 ≤ 16000000 := by rw [List.length_nil]; omega
  have e1 := up_turn s (some (.d (.tuple (numD cs)))) none cs [] r [] a b 0 hcs rfl b1 b2 h0
  have h2 : ((a + 1) :: List.replicate (b - 1).toNat 2).length + 1001 * r.length ≤ 16000000 := by
    rw [List.length_cons, List.length_replicate]
    omega
  obtain ⟨x3', e2⟩ := up_loop s (some (.d (.tuple (numD cs)))) cs r [a, b] ((a + 1) :: List.replicate (b - 1).toNat 2) 1 t (some (.d (.int ((2 * 0 : Nat) : Int)))) hcs rfl (Nat.le_refl _) ht (fun x h => hx x (List.mem_cons_of_mem _ h)) h2
  refine ⟨x3', ?_⟩
  rw [List.range_eq_range', List.range'_succ, List.map_cons, forL_cons, asg1_i, ofO_run_some, rb_some]
  simp only [List.set_cons_succ, List.set_cons_zero]
  rw [e1]
  simp only [rb_some, onx_nx, if_true, List.nil_append]
  exact e2
theorem ups_ev (cs : List Int) (a b : Int) (r : List Int) (hcs : cs = a :: b :: r) (hr : r.length % 2 = 0) (hl : r.length ≤ 1000) (hx : ∀ x ∈ b :: r, 1 ≤ x ∧ x ≤ 1000) (s : Ss) :
    F_up_numbers [.d (.tuple (numD cs))] s = some (.tuple (numD ((a + 1) :: List.replicate (b - 1).toNat 2 ++ ups r)), s) := by
  obtain ⟨t, ht⟩ : ∃ t, r.length = 2 * t := ⟨r.length / 2, by omega⟩
  have hlen : cs.length = 2 * (t + 1) := by
    rw [hcs, List.length_cons, List.length_cons]
    omega
  have e0 := odd_ev cs t hlen s
  have hc : ((cs.length : Nat) : Int) = ((2 * (t + 1) : Nat) : Int) := congrArg _ hlen
  have er : rng3 (.int 0) (.int (cs.length : Int)) (.int 2) = some ((List.range (t + 1)).map fun (k : Nat) => PyData.int ((2 * k : Nat) : Int)) := by
    rw [hc]
    exact rng_two (t + 1) (by omega)
  obtain ⟨x3', full⟩ := up_full cs a b r hcs t ht hl hx s
  generalize (List.range (t + 1)).map (fun (k : Nat) => PyData.int ((2 * k : Nat) : Int)) = LL at er full
  generalize (a + 1) :: List.replicate (b - 1).toNat 2 ++ ups r = out at full ⊢
  rw [numD_nil] at full
  have hA : sTup [.nm 1, .nm 2] (aOwn (eLst aNil) (aD (eCall 1 F_odd_chain (aD (eVar 0) aNil)) aNil)) [some (.d (.tuple (numD cs))), none, none, none] s = some (.nx [some (.d (.tuple (numD cs))), some (.own (.list [])), some (.d (.tuple (numD cs))), none], s) := by
    simp [e0, datsV]
  have hI : iRg3 (eC (.int 0)) (eUn lenD (eVar 2)) (eC (.int 2)) [some (.d (.tuple (numD cs))), some (.own (.list [])), some (.d (.tuple (numD cs))), none] s = some (LL, s) := by
    rw [iRg3_run, eC_run, rb_some, eUn_run, eVar_run, show gVar [some (.d (.tuple (numD cs))), some (.own (.list [])), some (.d (.tuple (numD cs))), none] 2 = some (.tuple (numD cs)) from rfl, ofO_run_some, rb_some, len_t, numD_len, ofO_run_some, rb_some, eC_run, rb_some, er, ofO_run_some]
  have hC : sRet (eUn tupD (eOwn 1)) [some (.d (.tuple (numD cs))), some (.own (.list (numD out))), some (.d (.tuple (numD cs))), x3'] s = some (.rt (.tuple (numD out)), s) := by
    simp
  have hb : b_up_numbers [some (.d (.tuple (numD cs))), none, none, none] s = some (.rt (.tuple (numD out)), s) := by
    unfold b_up_numbers b_up_numbers_1
    rw [sSeq_run, hA, rb_some, onx_nx, sSeq_run, sFor_run, hI, rb_some, full, rb_some, onx_nx, hC]
  show fnV 4 b_up_numbers [.d (.tuple (numD cs))] s = _
  rw [fnV_run]
  show rb (b_up_numbers [some (.d (.tuple (numD cs))), none, none, none] s) _ = _
  rw [hb]
  rfl
theorem bych_ev (cs : List Int) (a b : Int) (r : List Int) (hcs : cs = a :: b :: r) (hr : r.length % 2 = 0) (hl : r.length ≤ 1000) (hx : ∀ x ∈ b :: r, 1 ≤ x ∧ x ≤ 1000) (s : Ss) :
    F_less_by_chain [.d (.tuple (numD cs))] s = some (.tuple (numD ((a + 1) :: List.replicate (b - 1).toNat 2 ++ ups r)), s) := by
  have e := ups_ev cs a b r hcs hr hl hx s
  generalize (a + 1) :: List.replicate (b - 1).toNat 2 ++ ups r = out at e ⊢
  simp [F_less_by_chain, fnV_run, b_less_by_chain, e]
end Lk93

set_option Elab.async false
set_option linter.all false
set_option maxRecDepth 100000
set_option maxHeartbeats 4000000
namespace Lk93
open PySem PySem.Spec L2 Sm
/-! ### the law -/
theorem bin_ev {op : D → D → Option D} {f g : Ev → M D} {ρ : Ev} {s s1 s2 : Ss} {x y z : D} (h1 : f ρ s = some (x, s1)) (h2 : g ρ s1 = some (y, s2)) (h3 : op x y = some z) : eBin op f g ρ s = some (z, s2) := by
  rw [eBin_run, h1, rb_some, h2, rb_some, h3, ofO_run_some]
theorem un_ev {op : D → Option D} {f : Ev → M D} {ρ : Ev} {s s1 : Ss} {x z : D} (h1 : f ρ s = some (x, s1)) (h3 : op x = some z) : eUn op f ρ s = some (z, s1) := by
  rw [eUn_run, h1, rb_some, h3, ofO_run_some]
theorem var_ev {i : Nat} {ρ : Ev} {x : D} (h : gVar ρ i = some x) (s : Ss) : eVar i ρ s = some (x, s) := by
  rw [eVar_run, h, ofO_run_some]
theorem set_ev {i : Nat} {f : Ev → M D} {ρ : Ev} {s s1 : Ss} {x : D} (h : f ρ s = some (x, s1)) : sSet i f ρ s = some (.nx (ρ.set i (some (.d x))), s1) := by
  rw [sSet_run, h, rb_some]
theorem call1_ev {G : List Vl → M D} {f : Ev → M D} {ρ : Ev} {s s1 : Ss} {x : D} {r : Option (D × Ss)} (h1 : f ρ s = some (x, s1)) (h : G [.d x] s1 = r) : eCall 1 G (aD f aNil) ρ s = r := by
  rw [eCall1, h1, rb_some, h]
theorem call2_ev {G : List Vl → M D} {f g : Ev → M D} {ρ : Ev} {s s1 s2 : Ss} {x y : D} {r : Option (D × Ss)} (h1 : f ρ s = some (x, s1)) (h2 : g ρ s1 = some (y, s2)) (h : G [.d x, .d y] s2 = r) : eCall 2 G (aD f (aD g aNil)) ρ s = r := by
  rw [eCall2, h1, rb_some, h2, rb_some, h]
theorem powN (b n m : Nat) (h : n ≤ m) (hb : 0 < b) : ((b : Int)) ^ n ≤ ((b ^ m : Nat) : Int) := by
  rw [← Int.natCast_pow]
  exact Int.ofNat_le.mpr (Nat.pow_le_pow_right hb h)
theorem seq_nx {f g : Ev → M Out} {ρ ρ1 : Ev} {s s1 : Ss} {r : Option (Out × Ss)} (h : f ρ s = some (.nx ρ1, s1)) (h2 : g ρ1 s1 = r) : sSeq f g ρ s = r := by
  rw [sSeq_run, h, rb_some, onx_nx, h2]
theorem if_no {g : Ev → M Bool} {f : Ev → M Out} {ρ : Ev} {s s1 : Ss} (h : g ρ s = some (false, s1)) : sIf g f sNil ρ s = some (.nx ρ, s1) := by
  simp [h]
theorem or_no {g h : Ev → M Bool} {ρ : Ev} {s s1 s2 : Ss} (e : g ρ s = some (false, s1)) (e2 : h ρ s1 = some (false, s2)) : bOr g h ρ s = some (false, s2) := by
  simp [e, e2]
theorem ne_no {f g : Ev → M D} {ρ : Ev} {s s1 s2 : Ss} {x : D} (e : f ρ s = some (x, s1)) (e2 : g ρ s1 = some (x, s2)) (h : neB x x = some (.bool false)) : bV (eBin neB f g) ρ s = some (false, s2) := by
  simp [e, e2, h]
/-- the same told twice -/
theorem repr_no {f g : Ev → M D} {ρ : Ev} {s s1 s2 : Ss} {x : D} {t : Str} (e : f ρ s = some (x, s1)) (e2 : g ρ s1 = some (x, s2)) (h : reprD x = some (.str t)) : bV (eBin neB (eUn reprD f) (eUn reprD g)) ρ s = some (false, s2) := by
  simp [e, e2, h]
theorem less_bd : ∀ (m : Nat) {p q B : Int}, q.toNat ≤ m → -B ≤ p → p ≤ B → q ≤ B → ∀ c ∈ less p q, -(2 * B) ≤ c ∧ c ≤ 2 * B
  | 0, p, q, B, hm, _, _, _, c, hc => by
    rw [less_non (by omega)] at hc
    cases hc
  | m + 1, p, q, B, hm, h1, h2, h3, c, hc => by
    by_cases hq : 0 < q
    · obtain ⟨a0, a1⟩ := up_lo p hq
      rw [less_pos hq] at hc
      rcases List.mem_cons.mp hc with rfl | hc
      · generalize -((-p) / q) = k at a0 a1
        by_cases hk : 0 ≤ k
        · have : k * 1 ≤ k * q := Int.mul_le_mul_of_nonneg_left (by omega) hk
          omega
        · have : (-k) * 1 ≤ (-k) * q := Int.mul_le_mul_of_nonneg_left (by omega) (by omega)
          have e : (-k) * q = -(k * q) := Int.neg_mul ..
          omega
      · exact less_bd m (by omega) (by omega) h3 (by omega) c hc
    · rw [less_non hq] at hc
      cases hc
theorem nums_repr {ns : List Int} (h : ∀ c ∈ ns, -1000000 ≤ c ∧ c ≤ 1000000) (hl : ns.length ≤ 100000) : ∃ t, reprD (.tuple (numD ns)) = some (.str t) := by
  refine ⟨_, reprD_ok ?_ (.inl ?_) ?_ ?_⟩
  · simp only [okS]
    exact okA_ints fun n hn => by have := h n hn; omega
  · simp only [PyData.hasDict]
    exact hasA_ints ns
  · have := depA_ints ns
    simp only [PyData.depth]
    omega
  · simp only [wtD, wtA_ints]
    omega
theorem three_repr {C O : List Int} {n k : Int} (hC : ∀ c ∈ C, -1000000 ≤ c ∧ c ≤ 1000000) (hO : ∀ c ∈ O, -1000000 ≤ c ∧ c ≤ 1000000) (lC : C.length ≤ 100000) (lO : O.length ≤ 100000) (hn : -1000000 ≤ n ∧ n ≤ 1000000) (hk : -1000000 ≤ k ∧ k ≤ 1000000) :
    ∃ t, reprD (.list [.tuple (numD C), .tuple (numD O), .tuple [.int n, .int k]]) = some (.str t) := by
  refine ⟨_, reprD_ok ?_ (.inl ?_) ?_ ?_⟩
  · simp only [okS, okA, Bool.and_true, Bool.and_eq_true, decide_eq_true_eq]
    exact ⟨okA_ints fun n hn => by have := hC n hn; omega, okA_ints fun n hn => by have := hO n hn; omega, by omega, by omega⟩
  · simp only [PyData.hasDict, PyData.hasDictAll, hasA_ints, Bool.or_self]
  · have := depA_ints C
    have := depA_ints O
    simp only [PyData.depth, PyData.depthAll]
    omega
  · simp only [wtD, wtA, wtA_ints]
    omega
theorem int_repr {i : Int} (h : -1000000 ≤ i ∧ i ≤ 1000000) : ∃ t, reprD (.int i) = some (.str t) := by
  refine ⟨_, reprD_ok ?_ (.inl ?_) ?_ ?_⟩
  · simp only [okS, decide_eq_true_eq]
    omega
  · simp only [PyData.hasDict]
  · simp only [PyData.depth]
    omega
  · simp only [wtD]
    omega
/-- the one that undoes k -/
theorem back_ev {n k j : Int} (hn : 2 ≤ n) (hn2 : n ≤ 1901) (hk : 0 < k) (hkn : k < n) (hj0 : 0 < j) (hjn : j < n) (hj : j * k % n = 1 % n) (hg : Int.gcd n k = 1)
    (ρ : Ev) (s : Ss) (x : Option Vl) (ρ' : Ev) (hw : wipeE ρ [17] = ρ') (h0 : isOwn ρ 17 = false) (h3 : ∀ v, gVar (ρ'.set 17 (some (.d v))) 3 = some (.int n)) (h3' : gVar ρ 3 = some (.int n)) (h4 : ∀ v, gVar (ρ'.set 17 (some (.d v))) 4 = some (.int k)) (h17 : ∀ v, gVar (ρ'.set 17 (some (.d v))) 17 = some v) :
    eBin getD (eLc [17] (some 17) [] (iRg2 (eC (.int 1)) (eVar 3)) (bV (eBin eqB (eBin modI (eUn intD (eBin mulD (eVar 17) (eVar 4))) (eVar 3)) (eC (.int 1)))) (eVar 17)) (eC (.int 0)) ρ s = some (.int j, s) := by
  obtain ⟨m, rfl⟩ : ∃ m : Nat, n = ((1 + m : Nat) : Int) := ⟨(n - 1).toNat, by omega⟩
  have hr : rng2 (.int 1) (.int ((1 + m : Nat) : Int)) = some ((List.range m).map fun (k : Nat) => PyData.int (1 + k : Nat)) := rng2_nat 1 m (by omega)
  generalize hL : (List.range m).map (fun (k : Nat) => PyData.int (1 + k : Nat)) = L at hr
  have hmem : ∀ y ∈ L, ∃ i : Int, y = .int i ∧ 1 ≤ i ∧ i < ((1 + m : Nat) : Int) := by
    intro y hy
    rw [← hL] at hy
    obtain ⟨a, ha, rfl⟩ := List.mem_map.mp hy
    have := List.mem_range.mp ha
    exact ⟨_, rfl, by omega, by omega⟩
  have hmj : PyData.int j ∈ L := by
    rw [← hL]
    exact List.mem_map.mpr ⟨(j - 1).toNat, List.mem_range.mpr (by omega), congrArg PyData.int (by omega)⟩
  have hlen : L.length ≤ 16000000 := by
    rw [← hL, List.length_map, List.length_range]
    omega
  let p : D → Bool := fun y => match y with
    | .int i => (i * k).fmod ((1 + m : Nat) : Int) == 1
    | _ => false
  have hf : compL (asg1 (some 17) []) (bV (eBin eqB (eBin modI (eUn intD (eBin mulD (eVar 17) (eVar 4))) (eVar 3)) (eC (.int 1)))) (eVar 17) L ρ' s = some ((L.filter p).map id, s) := by
    refine comp_filter fun y hy => ?_
    obtain ⟨i, rfl, i1, i2⟩ := hmem y hy
    have hm := mulOk_r i (j := k) (by omega) (by omega)
    have hz : ¬ ((1 + m : Nat) : Int) = 0 := by omega
    refine ⟨_, rfl, ?_, ?_⟩
    · simp only [bV_run, eBin_run, eUn_run, eVar_run, h17, h4, h3, ofO_run_some, rb_some, mul_i, hm, if_true, int_i, mod_i, hz, if_false, eC_run, eq_int, asB_b]
      rfl
    · rw [eVar_run, h17]
      rfl
  have hone : ∀ y ∈ L.filter p, y = .int j := by
    intro y hy
    obtain ⟨hy1, hy2⟩ := List.mem_filter.mp hy
    obtain ⟨i, rfl, i1, i2⟩ := hmem y hy1
    have e1 : (i * k).fmod ((1 + m : Nat) : Int) = 1 := eq_of_beq hy2
    rw [fmodP _ (by omega)] at e1
    have e2 : j * k % ((1 + m : Nat) : Int) = 1 := by
      rw [hj, Int.emod_eq_of_lt (by decide) (by omega)]
    refine congrArg PyData.int ?_
    have e3 : ((i - j) * k) % ((1 + m : Nat) : Int) = 0 := by
      rw [Int.sub_mul, Int.sub_emod, e1, e2]
      simp
    have d1 : ((1 + m : Nat) : Int) ∣ (i - j) * k := Int.dvd_of_emod_eq_zero e3
    have d2 : ((1 + m : Nat) : Int) ∣ (i - j) := by
      obtain ⟨u, hu⟩ := d1
      have ht := Int.mul_ediv_add_emod (j * k) ((1 + m : Nat) : Int)
      rw [e2] at ht
      generalize (j * k) / ((1 + m : Nat) : Int) = t at ht
      generalize ((1 + m : Nat) : Int) = N at ht hu ⊢
      exact ⟨u * j - t * (i - j), by grind⟩
    by_cases hij : i - j = 0
    · omega
    · have := Int.le_of_dvd (a := ((1 + m : Nat) : Int)) (b := (i - j).natAbs) (by omega) (by rwa [Int.dvd_natAbs])
      omega
  have hin : PyData.int j ∈ L.filter p := by
    refine List.mem_filter.mpr ⟨hmj, ?_⟩
    show ((j * k).fmod ((1 + m : Nat) : Int) == 1) = true
    rw [fmodP _ (by omega), hj, Int.emod_eq_of_lt (by decide) (by omega)]
    rfl
  have hfirst : getD (.list ((L.filter p).map id)) (.int 0) = some (.int j) := by
    rw [List.map_id]
    cases q : L.filter p with
    | nil => rw [q] at hin; cases hin
    | cons a b =>
      rw [q] at hone
      rw [hone a List.mem_cons_self]
      exact Sm.atI_nat (i := 0) rfl
  rw [eBin_run, eLc_run, iRg2_run, eC_run, rb_some, eVar_run, h3', ofO_run_some, rb_some, hr, ofO_run_some, rb_some, if_pos (by simp [h0, hlen]), hw, hf, rb_some, rb_some, eC_run, rb_some, hfirst]
  rfl
end Lk93

set_option Elab.async false
set_option linter.all false
set_option maxRecDepth 100000
set_option maxHeartbeats 4000000
namespace Lk93
open PySem PySem.Spec L2 Sm
theorem run_seq {P : Ev → Prop} {f g : Ev → M Out} {ρ ρ1 : Ev} {s s1 : Ss} (h : f ρ s = some (.nx ρ1, s1)) (h2 : ∃ ρ' s', g ρ1 s1 = some (.nx ρ', s') ∧ P ρ') : ∃ ρ' s', sSeq f g ρ s = some (.nx ρ', s') ∧ P ρ' := by
  obtain ⟨ρ', s', e, p⟩ := h2
  exact ⟨ρ', s', seq_nx h e, p⟩
abbrev env (x0 a2 a3 a4 a5 a6 a7 a8 a9 a10 a11 a12 a13 a14 a15 a16 : Option Vl) : Ev := [x0, some .src, a2, a3, a4, a5, a6, a7, a8, a9, a10, a11, a12, a13, a14, a15, a16, none, none, none]
def Fine (x0 : Option Vl) (ρ : Ev) : Prop := ∃ a2 a3 a4 a5 a6 a7 a8 a9 a10 a11 a12 a13 a14 a15 a16, ρ = env x0 a2 a3 a4 a5 a6 a7 a8 a9 a10 a11 a12 a13 a14 a15 a16
abbrev dI (i : Int) : Option Vl := some (.d (.int i))
abbrev dT (ns : List Int) : Option Vl := some (.d (.tuple (numD ns)))
theorem neT (ns : List Int) : neB (.tuple (numD ns)) (.tuple (numD ns)) = some (.bool false) := ne_self (shaped_numT ns)
theorem two (a b : Int) : (PyData.tuple [.int a, .int b] : D) = .tuple (numD [a, b]) := rfl
theorem ne2 (a b : Int) : neB (.tuple [.int a, .int b]) (.tuple [.int a, .int b]) = some (.bool false) := neT [a, b]
theorem less_ne {p q : Int} (h : 0 < q) : less p q ≠ [] := by
  rw [less_pos h]
  simp
theorem rval_bd : ∀ {L : List Int}, (∀ x ∈ L, 1 ≤ x ∧ x ≤ 5) → 0 ≤ (rval L).2 ∧ (rval L).2 ≤ (rval L).1 ∧ 1 ≤ (rval L).1 ∧ (rval L).1 ≤ 6 ^ L.length
  | [], _ => by decide
  | c :: r, h => by
    obtain ⟨h1, h2, h3, h4⟩ := rval_bd fun x hx => h x (List.mem_cons_of_mem _ hx)
    obtain ⟨c1, c2⟩ := h c List.mem_cons_self
    have e1 : 1 * (rval r).1 ≤ c * (rval r).1 := Int.mul_le_mul_of_nonneg_right c1 (by omega)
    have e2 : c * (rval r).1 ≤ 5 * (rval r).1 := Int.mul_le_mul_of_nonneg_right c2 (by omega)
    have e3 : (6 : Int) ^ (c :: r).length = 6 * 6 ^ r.length := by rw [List.length_cons, Int.pow_succ, Int.mul_comm]
    rw [e3]
    show 0 ≤ (rval r).1 ∧ (rval r).1 ≤ c * (rval r).1 + (rval r).2 ∧ 1 ≤ c * (rval r).1 + (rval r).2 ∧ c * (rval r).1 + (rval r).2 ≤ 6 * 6 ^ r.length
    omega
theorem lval_bd : ∀ {L : List Int}, (∀ x ∈ L, 2 ≤ x ∧ x ≤ 5) → (lval L).1 ≤ 5 ^ L.length
  | [], _ => by decide
  | c :: r, h => by
    have h4 := lval_bd fun x hx => h x (List.mem_cons_of_mem _ hx)
    obtain ⟨l1, l2⟩ := lval_lt (cs := r) fun x hx => (h x (List.mem_cons_of_mem _ hx)).1
    obtain ⟨c1, c2⟩ := h c List.mem_cons_self
    have e2 : c * (lval r).1 ≤ 5 * (lval r).1 := Int.mul_le_mul_of_nonneg_right c2 (by omega)
    have e3 : (5 : Int) ^ (c :: r).length = 5 * 5 ^ r.length := by rw [List.length_cons, Int.pow_succ, Int.mul_comm]
    rw [e3]
    show c * (lval r).1 - (lval r).2 ≤ 5 * 5 ^ r.length
    omega
theorem ups_bd : ∀ {r : List Int}, (∀ x ∈ r, 1 ≤ x ∧ x ≤ 5) → (ups r).length ≤ 5 * r.length ∧ ∀ c ∈ ups r, 0 ≤ c ∧ c ≤ 10
  | [], _ => ⟨Nat.zero_le _, fun c hc => by cases hc⟩
  | [a], _ => ⟨Nat.zero_le _, fun c hc => by cases hc⟩
  | a :: b :: r, h => by
    obtain ⟨h1, h2⟩ := ups_bd (r := r) fun x hx => h x (by simp [hx])
    obtain ⟨a1, a2⟩ := h a (by simp)
    obtain ⟨b1, b2⟩ := h b (by simp)
    constructor
    · simp only [ups, List.length_cons, List.length_append, List.length_replicate]
      omega
    · intro c hc
      simp only [ups, List.mem_cons, List.mem_append, List.mem_replicate] at hc
      rcases hc with rfl | ⟨_, rfl⟩ | hc
      · omega
      · omega
      · exact h2 c hc
theorem plus_loop (s : Ss) (x0 a2 a3 a4 a5 a6 a7 a8 a9 a10 a11 a12 a16 : Option Vl) : ∀ (L suf : List Int) (a15 : Option Vl), (∀ c ∈ L, -(2 ^ 64) < c ∧ c < 2 ^ 64) → ∃ b15, forL (asg1 (some 15) []) b_law_1 (numD L) (env x0 a2 a3 a4 a5 a6 a7 a8 a9 a10 a11 a12 (dI (rval suf).1) (dI (rval suf).2) a15 a16) s =
    some (.nx (env x0 a2 a3 a4 a5 a6 a7 a8 a9 a10 a11 a12 (dI (rval (L.reverse ++ suf)).1) (dI (rval (L.reverse ++ suf)).2) b15 a16), s)
  | [], suf, a15, _ => ⟨a15, rfl⟩
  | c :: L, suf, a15, h => by
    obtain ⟨b15, e⟩ := plus_loop s x0 a2 a3 a4 a5 a6 a7 a8 a9 a10 a11 a12 a16 L (c :: suf) (dI c) fun d hd => h d (List.mem_cons_of_mem _ hd)
    obtain ⟨c1, c2⟩ := h c List.mem_cons_self
    have hm := mulOk_l (i := c) (rval suf).1 c1 c2
    refine ⟨b15, ?_⟩
    rw [numD_cons, forL_cons]
    rw [List.append_cons] at e
    simp only [rval] at e
    simpa [b_law_1, hm, datsV] using e
theorem minus_loop (s : Ss) (x0 a2 a3 a4 a5 a6 a7 a8 a9 a10 a11 a12 a16 : Option Vl) : ∀ (L suf : List Int) (a15 : Option Vl), (∀ c ∈ L, -(2 ^ 64) < c ∧ c < 2 ^ 64) → ∃ b15, forL (asg1 (some 15) []) b_law_2 (numD L) (env x0 a2 a3 a4 a5 a6 a7 a8 a9 a10 a11 a12 (dI (lval suf).1) (dI (lval suf).2) a15 a16) s =
    some (.nx (env x0 a2 a3 a4 a5 a6 a7 a8 a9 a10 a11 a12 (dI (lval (L.reverse ++ suf)).1) (dI (lval (L.reverse ++ suf)).2) b15 a16), s)
  | [], suf, a15, _ => ⟨a15, rfl⟩
  | c :: L, suf, a15, h => by
    obtain ⟨b15, e⟩ := minus_loop s x0 a2 a3 a4 a5 a6 a7 a8 a9 a10 a11 a12 a16 L (c :: suf) (dI c) fun d hd => h d (List.mem_cons_of_mem _ hd)
    obtain ⟨c1, c2⟩ := h c List.mem_cons_self
    have hm := mulOk_l (i := c) (lval suf).1 c1 c2
    refine ⟨b15, ?_⟩
    rw [numD_cons, forL_cons]
    rw [List.append_cons] at e
    simp only [lval] at e
    simpa [b_law_2, hm, datsV] using e
theorem lap_ev (x0 a2 a3 a4 a5 a6 a7 a8 a9 a10 a11 a12 a13 a14 a15 a16 : Option Vl) (s : Ss) : ∃ ρ' s', b_law_3 (env x0 a2 a3 a4 a5 a6 a7 a8 a9 a10 a11 a12 a13 a14 a15 a16) s = some (.nx ρ', s') ∧ Fine x0 ρ' := by
  obtain ⟨n, k, s1, e1, k1, kn, n1, hg⟩ := bottom_ev s
  have k0 : 0 < k := by omega
  have hv := val_less _ (Nat.le_refl _) k0 hg
  have hC2 := less_ge2 _ (Nat.le_refl _) kn
  have hCb := less_bd k.toNat (p := n) (q := k) (B := 1901) (Nat.le_refl _) (by omega) n1 (by omega)
  have hOb := less_bd (n - k).toNat (p := n) (q := n - k) (B := 1901) (Nat.le_refl _) (by omega) n1 (by omega)
  have hCl := less_len k.toNat (p := n) (q := k) (Nat.le_refl _)
  have hOl := less_len (n - k).toNat (p := n) (q := n - k) (Nat.le_refl _)
  obtain ⟨d1, d2⟩ := dual n.toNat (Nat.le_refl _) k0 kn
  obtain ⟨j, hrv, j0, jn, hjk, hlj⟩ := turned k0 kn hg
  have hCne := less_ne (p := n) k0
  have ec := chain_ev n k (by omega)
  have er := rest_ev n k (by omega)
  have el := lless_ev n k (by omega)
  have elo := lless_ev n (n - k) (by omega)
  have ev := value_ev (less n k) hCne fun c hc => by have := hCb c hc; omega
  have evr := value_ev (less n k).reverse (by simpa using hCne) fun c hc => by have := hCb c (List.mem_reverse.mp hc); omega
  have ecj := chain_ev n j (by omega)
  have ecount := count_ev n k (by omega)
  rw [hv] at ev
  rw [hrv] at evr
  rw [hlj] at ecj
  generalize hC : less n k = C at *
  generalize hO : less n (n - k) = O at *
  unfold b_law_3
  refine run_seq (ρ1 := env x0 a2 (dI n) (dI k) a5 a6 a7 a8 a9 a10 a11 a12 a13 a14 a15 a16) (s1 := s1) (by simp [e1]) ?_
  refine run_seq (ρ1 := env x0 a2 (dI n) (dI k) (dT C) (dT O) a7 a8 a9 a10 a11 a12 a13 a14 a15 a16) (s1 := s1) (by simp [el, elo]) ?_
  obtain ⟨t1, ht1⟩ := three_repr (C := C) (O := O) (n := n) (k := k) (fun c hc => by have := hCb c hc; omega) (fun c hc => by have := hOb c hc; omega) (by omega) (by omega) (by omega) (by omega)
  refine run_seq (if_no (repr_no (s1 := s1) (s2 := s1) (by simp [ec, er, ev, datsV]) (by simp [datsV]) ht1)) ?_
  obtain ⟨m, hm1, hm2⟩ : ∃ m, C.min? = some m ∧ 2 ≤ m := by
    cases q : C.min? with
    | none => exact absurd (List.min?_eq_none_iff.mp q) hCne
    | some m => exact ⟨m, rfl, hC2 m (List.min?_eq_some_iff.mp q).1⟩
  refine run_seq (if_no (or_no (s1 := s1) (s2 := s1) (by simp [min_t, hm1, hm2]) (by simp [ecount]))) ?_
  have hback := back_ev (by omega) n1 k0 kn j0 jn hjk hg (env x0 a2 (dI n) (dI k) (dT C) (dT O) a7 a8 a9 a10 a11 a12 a13 a14 a15 a16) s1 none (env x0 a2 (dI n) (dI k) (dT C) (dT O) a7 a8 a9 a10 a11 a12 a13 a14 a15 a16) rfl rfl (fun _ => rfl) rfl (fun _ => rfl) (fun _ => rfl)
  refine run_seq (ρ1 := env x0 a2 (dI n) (dI k) (dT C) (dT O) (dI j) a8 a9 a10 a11 a12 a13 a14 a15 a16) (s1 := s1) (by rw [sSet_run, hback]; rfl) ?_
  have ht : F_turned_less [.d (.int n), .d (.int k)] s1 = some (.int j, s1) := by
    have g : getD (.tuple [.int n, .int j]) (.int 1) = some (.int j) := rfl
    simp [F_turned_less, fnV_run, b_turned_less, datsV, ec, numD_rev, evr, g]
  obtain ⟨t2, ht2⟩ := int_repr (i := j) (by omega)
  refine run_seq (if_no (or_no (s1 := s1) (s2 := s1) (repr_no (s1 := s1) (s2 := s1) (x := .int j) (by simp [ht]) (by simp) ht2) (ne_no (s1 := s1) (s2 := s1) (x := .tuple (numD C.reverse)) (by simp [ecj, datsV]) (by simp [numD_rev]) (neT _)))) ?_
  have m2 : ∀ x : Int, mulOk 2 x = true := fun x => mulOk_l _ (by decide) (by decide)
  refine run_seq (if_no (s1 := s1) (by simp [sum_t, m2]; omega)) ?_
  refine run_seq (if_no (s1 := s1) (by simp [sum_t]; omega)) ?_
  obtain ⟨r2, s2, e2, r20, r21⟩ := pick_ev (n := 4001) (by decide) (by decide) s1
  refine run_seq (ρ1 := env x0 a2 (dI n) (dI k) (dT C) (dT O) (dI j) (dI (r2 - 2000)) a9 a10 a11 a12 a13 a14 a15 a16) (s1 := s2) (by simp [e2]) ?_
  generalize hp : r2 - 2000 = p
  refine run_seq (ρ1 := env x0 a2 (dI n) (dI k) (dT C) (dT O) (dI j) (dI p) (dI (Int.gcd p n)) a10 a11 a12 a13 a14 a15 a16) (s1 := s2) (by simp [common_ev]) ?_
  have hgp : 0 < Int.gcd p n := Int.gcd_pos_of_ne_zero_right _ (by omega)
  have hgle : ((Int.gcd p n : Nat) : Int) ≤ n := Int.le_of_dvd (by omega) (Int.gcd_dvd_right ..)
  have hcop : Int.gcd (p / (Int.gcd p n : Nat)) (n / (Int.gcd p n : Nat)) = 1 := by
    have := Int.gcd_ediv_gcd_ediv_gcd hgp
    simpa using this
  have hnq : 0 < n / ((Int.gcd p n : Nat) : Int) := Int.ediv_pos_of_pos_of_dvd (by omega) (by omega) (Int.gcd_dvd_right ..)
  have hnle : n / ((Int.gcd p n : Nat) : Int) ≤ n := Int.ediv_le_self _ (by omega)
  have hG0 : (0 : Int) < ((Int.gcd p n : Nat) : Int) := by omega
  have hpb : -2001 ≤ p / ((Int.gcd p n : Nat) : Int) ∧ p / ((Int.gcd p n : Nat) : Int) ≤ 2001 := by
    have h1 := Int.mul_ediv_add_emod p ((Int.gcd p n : Nat) : Int)
    have h2 := Int.ediv_mul_cancel (Int.gcd_dvd_left (a := p) (b := n))
    generalize ((Int.gcd p n : Nat) : Int) = G at *
    generalize p / G = P at *
    have hG : 1 ≤ G := by omega
    by_cases hP : 0 ≤ P
    · have : P * 1 ≤ P * G := Int.mul_le_mul_of_nonneg_left hG hP
      omega
    · have : (-P) * 1 ≤ (-P) * G := Int.mul_le_mul_of_nonneg_left hG (by omega)
      have e : (-P) * G = -(P * G) := Int.neg_mul ..
      omega
  have hdG := divOkP hG0 (by omega)
  generalize hGG : ((Int.gcd p n : Nat) : Int) = G at *
  generalize hx0 : p / G = u at *
  generalize hx1 : n / G = v at *
  refine run_seq (ρ1 := env x0 a2 (dI n) (dI k) (dT C) (dT O) (dI j) (dI p) (dI G) (some (.d (.tuple [.int u, .int v]))) a11 a12 a13 a14 a15 a16) (s1 := s2) (by simp [datsV, hdG, fdivP _ hG0, hx0, hx1]) ?_
  have eluv := lless_ev u v (by omega)
  have ecuv := chain_ev u v (by omega)
  have hLb := less_bd v.toNat (p := u) (q := v) (B := 2001) (Nat.le_refl _) (by omega) (by omega) (by omega)
  have hLl := less_len v.toNat (p := u) (q := v) (Nat.le_refl _)
  have hLv := val_less _ (Nat.le_refl _) hnq hcop
  have hLne := less_ne (p := u) hnq
  have hL2 := less_tail2 (p := u) (q := v)
  have evL := value_ev (less u v) hLne fun c hc => by have := hLb c hc; omega
  rw [hLv] at evL
  generalize hL : less u v = L at *
  refine run_seq (ρ1 := env x0 a2 (dI n) (dI k) (dT C) (dT O) (dI j) (dI p) (dI G) (some (.d (.tuple [.int u, .int v]))) (dT L) a12 a13 a14 a15 a16) (s1 := s2) (by
    have g0 : getD (.tuple [.int u, .int v]) (.int 0) = some (.int u) := rfl
    have g1 : getD (.tuple [.int u, .int v]) (.int 1) = some (.int v) := rfl
    simp [g0, g1, eluv]) ?_
  obtain ⟨t3, ht3⟩ := nums_repr (ns := L) (fun c hc => by have := hLb c hc; omega) (by omega)
  refine run_seq (if_no (or_no (s1 := s2) (s2 := s2) (repr_no (s1 := s2) (s2 := s2) (x := .tuple (numD L)) (by simp [ecuv]) (by simp) ht3) (or_no (s1 := s2) (s2 := s2) (ne_no (s1 := s2) (s2 := s2) (x := .tuple [.int u, .int v]) (by simp [evL]) (by simp) (ne2 _ _)) (ne_no (s1 := s2) (s2 := s2) (x := .list (numD [])) ?hcomp (by simp [datsV]) (ne_self (shaped_numL [])))))) ?_
  case hcomp =>
    have hcut : cutD (numD L) (some 1) none = numD L.tail := by
      rw [show (1 : Int) = ((1 : Nat) : Int) from rfl, cut_from]
      cases L with
      | nil => rfl
      | cons a b => rfl
    have hlen : (numD L.tail).length ≤ 16000000 := by
      rw [numD_len, List.length_tail]
      omega
    have hf : ∀ ρ' : Ev, (∀ v, gVar (ρ'.set 18 (some (.d v))) 18 = some v) → compL (asg1 (some 18) []) (bV (eBin ltI (eVar 18) (eC (.int 2)))) (eVar 18) (numD L.tail) ρ' s2 = some ([], s2) := by
      intro ρ' h18
      have := comp_filter (a := asg1 (some 18) []) (g := bV (eBin ltI (eVar 18) (eC (.int 2)))) (fe := eVar 18) (p := fun _ => false) (h := id) (ρ := ρ') (s := s2) (ds := numD L.tail) fun x hx => by
        obtain ⟨i, hi, rfl⟩ := numD_mem hx
        have hi2 := hL2 i hi
        refine ⟨_, rfl, ?_, ?_⟩
        · simp only [bV_run, eBin_run, eVar_run, h18, ofO_run_some, rb_some, eC_run, cmp_i, asB_b]
          rw [decide_eq_false (by omega)]
        · rw [eVar_run, h18]
          rfl
      rw [this]
      simp
    have hs : iSeq (eSl (eVar 11) (oSome (eC (.int 1))) oNone) (env x0 a2 (dI n) (dI k) (dT C) (dT O) (dI j) (dI p) (dI G) (some (.d (.tuple [.int u, .int v]))) (dT L) a12 a13 a14 a15 a16) s2 = some (numD L.tail, s2) := by
      simp [hcut]
    exact eLc_ev hs rfl hlen (hf _ (fun _ => rfl))
  obtain ⟨r3, s3, e3, r30, r31⟩ := pick_ev (n := 9) (by decide) (by decide) s2
  generalize hd0 : r3 - 4 = d0
  refine run_seq (ρ1 := env x0 a2 (dI n) (dI k) (dT C) (dT O) (dI j) (dI p) (dI G) (some (.d (.tuple [.int u, .int v]))) (dT L) (dT [d0]) a13 a14 a15 a16) (s1 := s3) (by simp [e3, datsV, hd0]) ?_
  obtain ⟨r4, s4, e4, r40, r41⟩ := pick_ev (n := 5) (by decide) (by decide) s3
  have hN : ∃ N : Nat, 1 + 2 * r4 = ((1 + 2 * N : Nat) : Int) ∧ N ≤ 4 := ⟨r4.toNat, by omega, by omega⟩
  obtain ⟨N, hN1, hN2⟩ := hN
  have hr1 := rng1_nat (1 + 2 * N) (by omega)
  obtain ⟨ys, s5, ecomp, hylen, hyW⟩ := comp_draw (a := asg1 (some 19) []) (fe := eBin addD (eC (.int 1)) (eCall 2 F_l_pick (aSrc 1 (aD (eC (.int 5)) aNil)))) (ρ := env x0 a2 (dI n) (dI k) (dT C) (dT O) (dI j) (dI p) (dI G) (some (.d (.tuple [.int u, .int v]))) (dT L) (dT [d0]) a13 a14 a15 a16)
    (fun y => ∃ i, y = .int i ∧ (1 ≤ i ∧ i ≤ 5)) ((List.range (1 + 2 * N)).map fun (k : Nat) => PyData.int k) s4 fun x hx s => by
      obtain ⟨r, s', e, q1, q2⟩ := pick_ev (n := 5) (by decide) (by decide) s
      exact ⟨_, .int (1 + r), s', rfl, by simp [e], 1 + r, rfl, by omega, by omega⟩
  rw [List.length_map, List.length_range] at hylen
  obtain ⟨ds, rfl, hds⟩ := nums_of ys (fun i => 1 ≤ i ∧ i ≤ 5) hyW
  rw [numD_len] at hylen
  have elc : eLc [19] (some 19) [] (iRg1 (eBin addD (eC (.int 1)) (eBin mulD (eC (.int 2)) (eCall 2 F_l_pick (aSrc 1 (aD (eC (.int 5)) aNil)))))) bT (eBin addD (eC (.int 1)) (eCall 2 F_l_pick (aSrc 1 (aD (eC (.int 5)) aNil))))
      (env x0 a2 (dI n) (dI k) (dT C) (dT O) (dI j) (dI p) (dI G) (some (.d (.tuple [.int u, .int v]))) (dT L) (dT [d0]) a13 a14 a15 a16) s3 = some (.list (numD ds), s5) := by
    refine eLc_ev (s1 := s4) (ds := (List.range (1 + 2 * N)).map fun (k : Nat) => PyData.int k) ?_ rfl (by rw [List.length_map, List.length_range]; omega) ecomp
    simp only [iRg1_run, eBin_run, eC_run, rb_some, eCallS1, gSrc_s, gSrc_0, ofO_run_some, e4, mul_i, m2, if_true, add_i, hN1, hr1]
  refine run_seq (ρ1 := env x0 a2 (dI n) (dI k) (dT C) (dT O) (dI j) (dI p) (dI G) (some (.d (.tuple [.int u, .int v]))) (dT L) (dT (d0 :: ds)) a13 a14 a15 a16) (s1 := s5) (by
    have hl : [PyData.int d0].length + (numD ds).length ≤ 16000000 := by
      rw [numD_len]
      show 1 + ds.length ≤ _
      omega
    exact set_ev (bin_ev (var_ev (x := .tuple [.int d0]) rfl s3) (un_ev elc rfl) ((add_t _ _).trans (if_pos hl)))) ?_
  refine run_seq (ρ1 := env x0 a2 (dI n) (dI k) (dT C) (dT O) (dI j) (dI p) (dI G) (some (.d (.tuple [.int u, .int v]))) (dT L) (dT (d0 :: ds)) (dI 1) (dI 0) a15 a16) (s1 := s5) (by simp) ?_
  obtain ⟨b15, eplus⟩ := plus_loop s5 x0 a2 (dI n) (dI k) (dT C) (dT O) (dI j) (dI p) (dI G) (some (.d (.tuple [.int u, .int v]))) (dT L) (dT (d0 :: ds)) a16 (d0 :: ds).reverse [] a15 fun c hc => by
    rcases List.mem_cons.mp (List.mem_reverse.mp hc) with rfl | hc
    · omega
    · have := hds c hc
      omega
  rw [List.reverse_reverse, List.append_nil] at eplus
  refine run_seq (ρ1 := env x0 a2 (dI n) (dI k) (dT C) (dT O) (dI j) (dI p) (dI G) (some (.d (.tuple [.int u, .int v]))) (dT L) (dT (d0 :: ds)) (dI (rval (d0 :: ds)).1) (dI (rval (d0 :: ds)).2) b15 a16) (s1 := s5) (by
    rw [sFor_run, iSeq_run, eUn_run, eVar_run, show gVar (env x0 a2 (dI n) (dI k) (dT C) (dT O) (dI j) (dI p) (dI G) (some (.d (.tuple [.int u, .int v]))) (dT L) (dT (d0 :: ds)) (dI 1) (dI 0) a15 a16) 12 = some (.tuple (numD (d0 :: ds))) from rfl, ofO_run_some, rb_some, rev_t, ofO_run_some, rb_some, seq_t, ofO_run_some, rb_some, numD_rev]
    exact eplus) ?_
  obtain ⟨b, r, hbr⟩ : ∃ b r, ds = b :: r := by
    cases ds with
    | nil => simp at hylen; omega
    | cons b r => exact ⟨b, r, rfl⟩
  have hrl : r.length = 2 * N := by
    rw [hbr, List.length_cons] at hylen
    omega
  have hbd := rval_bd hds
  have h6 : (6 : Int) ^ ds.length ≤ 10077696 := by
    exact powN 6 ds.length 9 (by omega) (by decide)
  rw [hbr] at hds hbd h6
  have ebych := bych_ev (d0 :: ds) d0 b r (by rw [hbr]) (by omega) (by omega) (fun x hx => by have := hds x hx; omega) s5
  have hless := less_ups (a := d0) (b := b) (r := r) (by omega) fun x hx => (hds x hx).1
  have eless := lless_ev (rval (d0 :: ds)).1 (rval (d0 :: ds)).2 (by rw [hbr]; show (rval (b :: r)).1 ≤ _; omega) s5
  rw [hbr, hless, ← hbr] at eless
  obtain ⟨ul, ub⟩ := ups_bd (r := r) fun x hx => hds x (List.mem_cons_of_mem _ hx)
  obtain ⟨hb1, hb2⟩ := hds b List.mem_cons_self
  obtain ⟨t4, ht4⟩ := nums_repr (ns := (d0 + 1) :: List.replicate (b - 1).toNat 2 ++ ups r) (fun c hc => by
      simp only [List.cons_append, List.mem_cons, List.mem_append, List.mem_replicate] at hc
      rcases hc with rfl | ⟨_, rfl⟩ | hc
      · omega
      · omega
      · have := ub c hc
        omega) (by
      simp only [List.cons_append, List.length_cons, List.length_append, List.length_replicate]
      omega)
  refine run_seq (if_no (repr_no (s1 := s5) (s2 := s5) (x := .tuple (numD ((d0 + 1) :: List.replicate (b - 1).toNat 2 ++ ups r))) (call1_ev (var_ev rfl s5) ebych) (call2_ev (var_ev rfl s5) (var_ev rfl s5) eless) ht4)) ?_
  generalize (rval (d0 :: ds)).1 = w1
  generalize (rval (d0 :: ds)).2 = w2
  obtain ⟨r6, s6, e6, r60, r61⟩ := pick_ev (n := 9) (by decide) (by decide) s5
  generalize hm0 : r6 - 4 = m0
  obtain ⟨r7, s7, e7, r70, r71⟩ := pick_ev (n := 8) (by decide) (by decide) s6
  obtain ⟨M, hM1, hM2⟩ : ∃ M : Nat, r7 = (M : Int) ∧ M ≤ 7 := ⟨r7.toNat, by omega, by omega⟩
  have hr2 := rng1_nat M (by omega)
  obtain ⟨zs, s8, ecomp2, hzlen, hzW⟩ := comp_draw (a := asg1 (some 19) []) (fe := eBin addD (eC (.int 2)) (eCall 2 F_l_pick (aSrc 1 (aD (eC (.int 4)) aNil)))) (ρ := env x0 a2 (dI n) (dI k) (dT C) (dT O) (dI j) (dI p) (dI G) (some (.d (.tuple [.int u, .int v]))) (dT L) (dT (d0 :: ds)) (dI w1) (dI w2) b15 a16)
    (fun y => ∃ i, y = .int i ∧ (2 ≤ i ∧ i ≤ 5)) ((List.range M).map fun (k : Nat) => PyData.int k) s7 fun x hx s => by
      obtain ⟨r, s', e, q1, q2⟩ := pick_ev (n := 4) (by decide) (by decide) s
      exact ⟨_, .int (2 + r), s', rfl, by simp [e], 2 + r, rfl, by omega, by omega⟩
  rw [List.length_map, List.length_range] at hzlen
  obtain ⟨ms, rfl, hms⟩ := nums_of zs (fun i => 2 ≤ i ∧ i ≤ 5) hzW
  rw [numD_len] at hzlen
  have elc2 : eLc [19] (some 19) [] (iRg1 (eCall 2 F_l_pick (aSrc 1 (aD (eC (.int 8)) aNil)))) bT (eBin addD (eC (.int 2)) (eCall 2 F_l_pick (aSrc 1 (aD (eC (.int 4)) aNil))))
      (env x0 a2 (dI n) (dI k) (dT C) (dT O) (dI j) (dI p) (dI G) (some (.d (.tuple [.int u, .int v]))) (dT L) (dT (d0 :: ds)) (dI w1) (dI w2) b15 a16) s6 = some (.list (numD ms), s8) := by
    refine eLc_ev (s1 := s7) (ds := (List.range M).map fun (k : Nat) => PyData.int k) ?_ rfl (by rw [List.length_map, List.length_range]; omega) ecomp2
    simp only [iRg1_run, eC_run, rb_some, eCallS1, gSrc_s, gSrc_0, ofO_run_some, e7, hM1, hr2]
  refine run_seq (ρ1 := env x0 a2 (dI n) (dI k) (dT C) (dT O) (dI j) (dI p) (dI G) (some (.d (.tuple [.int u, .int v]))) (dT L) (dT (d0 :: ds)) (dI w1) (dI w2) b15 (dT (m0 :: ms))) (s1 := s8) (by
    have e0 : eTup (aD (eBin subI (eCall 2 F_l_pick (aSrc 1 (aD (eC (.int 9)) aNil))) (eC (.int 4))) aNil) (env x0 a2 (dI n) (dI k) (dT C) (dT O) (dI j) (dI p) (dI G) (some (.d (.tuple [.int u, .int v]))) (dT L) (dT (d0 :: ds)) (dI w1) (dI w2) b15 a16) s5 = some (.tuple [.int m0], s6) := by
      simp [e6, datsV, hm0]
    have hl : [PyData.int m0].length + (numD ms).length ≤ 16000000 := by
      rw [numD_len]
      show 1 + ms.length ≤ _
      omega
    exact set_ev (bin_ev e0 (un_ev elc2 rfl) ((add_t _ _).trans (if_pos hl)))) ?_
  obtain ⟨init, last, hsn⟩ := snoc (cs := m0 :: ms) (by simp)
  have g1 : getD (.tuple (numD (m0 :: ms))) (.int (-1)) = some (.int last) := by
    rw [hsn, numD_app]
    exact Sm.atI_last _ _
  have g2 : (cutD (numD (m0 :: ms)) none (some (-1))) = numD init := by
    rw [cut_init, hsn, numD_app]
    simp
  have hall : ∀ c ∈ m0 :: ms, -4 ≤ c ∧ c ≤ 5 := by
    intro c hc
    rcases List.mem_cons.mp hc with rfl | hc
    · omega
    · have := hms c hc
      omega
  refine run_seq (ρ1 := env x0 a2 (dI n) (dI k) (dT C) (dT O) (dI j) (dI p) (dI G) (some (.d (.tuple [.int u, .int v]))) (dT L) (dT (d0 :: ds)) (dI (lval [last]).1) (dI (lval [last]).2) b15 (dT (m0 :: ms))) (s1 := s8) (by
    rw [sTup_run, aD_run, eBin_run, eVar_run, show gVar (env x0 a2 (dI n) (dI k) (dT C) (dT O) (dI j) (dI p) (dI G) (some (.d (.tuple [.int u, .int v]))) (dT L) (dT (d0 :: ds)) (dI w1) (dI w2) b15 (dT (m0 :: ms))) 16 = some (.tuple (numD (m0 :: ms))) from rfl, ofO_run_some, rb_some, eUn_run, eC_run, rb_some, neg_i, ofO_run_some, rb_some, g1, ofO_run_some, rb_some]
    simp [lval]) ?_
  obtain ⟨c15, eminus⟩ := minus_loop s8 x0 a2 (dI n) (dI k) (dT C) (dT O) (dI j) (dI p) (dI G) (some (.d (.tuple [.int u, .int v]))) (dT L) (dT (d0 :: ds)) (dT (m0 :: ms)) init.reverse [last] b15 fun c hc => by
    have := hall c (by rw [hsn]; exact List.mem_append_left _ (List.mem_reverse.mp hc))
    omega
  rw [List.reverse_reverse, ← hsn] at eminus
  refine run_seq (ρ1 := env x0 a2 (dI n) (dI k) (dT C) (dT O) (dI j) (dI p) (dI G) (some (.d (.tuple [.int u, .int v]))) (dT L) (dT (d0 :: ds)) (dI (lval (m0 :: ms)).1) (dI (lval (m0 :: ms)).2) c15 (dT (m0 :: ms))) (s1 := s8) (by
    rw [sFor_run, iSeq_run, eUn_run, eSl_run, eVar_run, show gVar (env x0 a2 (dI n) (dI k) (dT C) (dT O) (dI j) (dI p) (dI G) (some (.d (.tuple [.int u, .int v]))) (dT L) (dT (d0 :: ds)) (dI (lval [last]).1) (dI (lval [last]).2) b15 (dT (m0 :: ms))) 16 = some (.tuple (numD (m0 :: ms))) from rfl, ofO_run_some, rb_some, oNone_run, rb_some, oSome_run, eUn_run, eC_run, rb_some, neg_i, ofO_run_some, rb_some, asI_i, ofO_run_some, rb_some, rb_some, slD_t, g2, ofO_run_some, rb_some, rev_t, ofO_run_some, rb_some, seq_t, ofO_run_some, rb_some, numD_rev]
    exact eminus) ?_
  have evm := value_ev (m0 :: ms) (by simp) (fun c hc => by have := hall c hc; omega) s8
  have hge : ge2 ms := fun c hc => (hms c hc).1
  have hlm := less_val ms m0 hge
  have hlb := lval_bd hms
  have h5 : (5 : Int) ^ ms.length ≤ 78125 := by
    exact powN 5 ms.length 7 (by omega) (by decide)
  obtain ⟨lm1, lm2⟩ := lval_lt hge
  have ecm := chain_ev (lval (m0 :: ms)).1 (lval (m0 :: ms)).2 (by show (lval ms).1 ≤ _; omega) s8
  rw [hlm] at ecm
  have hb1' : -1000000 ≤ (lval (m0 :: ms)).1 ∧ (lval (m0 :: ms)).1 ≤ 1000000 := by
    show -1000000 ≤ m0 * (lval ms).1 - (lval ms).2 ∧ m0 * (lval ms).1 - (lval ms).2 ≤ 1000000
    have := hall m0 List.mem_cons_self
    have f1 : -4 * (lval ms).1 ≤ m0 * (lval ms).1 := Int.mul_le_mul_of_nonneg_right this.1 (by omega)
    have f2 : m0 * (lval ms).1 ≤ 5 * (lval ms).1 := Int.mul_le_mul_of_nonneg_right this.2 (by omega)
    omega
  have hb2' : -1000000 ≤ (lval (m0 :: ms)).2 ∧ (lval (m0 :: ms)).2 ≤ 1000000 := by
    show -1000000 ≤ (lval ms).1 ∧ (lval ms).1 ≤ 1000000
    omega
  generalize (lval (m0 :: ms)).1 = z1 at *
  generalize (lval (m0 :: ms)).2 = z2 at *
  obtain ⟨t5, ht5⟩ := nums_repr (ns := [z1, z2]) (fun c hc => by
    simp only [List.mem_cons, List.not_mem_nil, or_false] at hc
    rcases hc with rfl | rfl <;> assumption) (by simp)
  refine ⟨_, _, if_no (or_no (s1 := s8) (s2 := s8) (repr_no (s1 := s8) (s2 := s8) (x := .tuple (numD [z1, z2])) (call1_ev (var_ev rfl s8) evm) (by simp [datsV]) ht5) (ne_no (s1 := s8) (s2 := s8) (x := .tuple (numD (m0 :: ms))) (by
    have : eTup (aD (eVar 13) (aD (eVar 14) aNil)) (env x0 a2 (dI n) (dI k) (dT C) (dT O) (dI j) (dI p) (dI G) (some (.d (.tuple [.int u, .int v]))) (dT L) (dT (d0 :: ds)) (dI z1) (dI z2) c15 (dT (m0 :: ms))) s8 = some (.tuple [.int z1, .int z2], s8) := by
      simp [datsV]
    rw [eCall1, this, rb_some, ecm]) (var_ev rfl s8) (neT _))), ?_⟩
  exact ⟨_, _, _, _, _, _, _, _, _, _, _, _, _, _, _, rfl⟩
end Lk93

set_option Elab.async false
set_option linter.all false
set_option maxRecDepth 100000
set_option maxHeartbeats 4000000
namespace Lk93
open PySem PySem.Spec L2 Sm
theorem less52 : less 5 2 = [3, 2] := by
  rw [less_step (k := 3) (by decide) (by decide) (by decide), less_step (k := 2) (by decide) (by decide) (by decide), less_non (by decide)]
theorem ok : LawOk 20 b_law := by
  intro s
  show ∃ s', b_law (env none none none none none none none none none none none none none none none none) s = _
  obtain ⟨ρ', s', e, _⟩ := forL_inv (a := asg1 (some 2) []) (b := b_law_3) (fun ρ _ => Fine none ρ) ((List.range 5).map fun (k : Nat) => PyData.int k) (env none none none none none none none none none none none none none none none none) s ⟨_, _, _, _, _, _, _, _, _, _, _, _, _, _, _, rfl⟩ fun x _ ρ s ⟨a2, a3, a4, a5, a6, a7, a8, a9, a10, a11, a12, a13, a14, a15, a16, h⟩ => by
    subst h
    obtain ⟨ρ2, s2, e2, f2⟩ := lap_ev none (some (.d x)) a3 a4 a5 a6 a7 a8 a9 a10 a11 a12 a13 a14 a15 a16 s
    exact ⟨_, ρ2, s2, rfl, e2, f2⟩
  have hr := rng1_nat 5 (by decide)
  refine ⟨s', ?_⟩
  have ec := chain_ev 5 2 (by decide) s'
  rw [less52] at ec
  unfold b_law
  refine seq_nx (ρ1 := ρ') (s1 := s') ?_ ?_
  · rw [sFor_run, iRg1_run, eC_run, rb_some, show (PyData.int 5) = .int ((5 : Nat) : Int) from rfl, hr, ofO_run_some, rb_some]
    exact e
  · have e1 : eTup (aD (eC (.int 5)) (aD (eC (.int 2)) aNil)) ρ' s' = some (.tuple [.int 5, .int 2], s') := by simp [datsV]
    have e2 : eTup (aD (eC (.int 3)) (aD (eC (.int 2)) aNil)) ρ' s' = some (.tuple (numD [3, 2]), s') := by simp [datsV]
    rw [sRet_run, bin_ev (call1_ev e1 ec) e2 (eq_self (shaped_numT [3, 2])), rb_some]
end Lk93

set_option Elab.async false
set_option linter.all false
set_option maxRecDepth 100000
set_option maxHeartbeats 0
namespace Lk93
open PySem PySem.Spec L2 Sm
def d_l_open_cells : He.DefD := ⟨("_law_open_cells", none), "_law_open_cells", "_law_open_cells", defArgs S_l_open_cells, defBody S_l_open_cells, defScope S_l_open_cells, [], []⟩
def d_l_pick : He.DefD := ⟨("_law_pick", none), "_law_pick", "_law_pick", defArgs S_l_pick, defBody S_l_pick, defScope S_l_pick, [], []⟩
def d_l_common : He.DefD := ⟨("_law_common", none), "_law_common", "_law_common", defArgs S_l_common, defBody S_l_common, defScope S_l_common, [], []⟩
def d_l_bottom : He.DefD := ⟨("_law_bottom", none), "_law_bottom", "_law_bottom", defArgs S_l_bottom, defBody S_l_bottom, defScope S_l_bottom, [], []⟩
def d_l_less : He.DefD := ⟨("_law_less", none), "_law_less", "_law_less", defArgs S_l_less, defBody S_l_less, defScope S_l_less, [], []⟩
def d_less_chain : He.DefD := ⟨("less_chain", none), "less_chain", "less_chain", defArgs S_less_chain, defBody S_less_chain, defScope S_less_chain, [], []⟩
def d_down_step : He.DefD := ⟨("down_step", none), "down_step", "down_step", defArgs S_down_step, defBody S_down_step, defScope S_down_step, [], []⟩
def d_near_step : He.DefD := ⟨("near_step", none), "near_step", "near_step", defArgs S_near_step, defBody S_near_step, defScope S_near_step, [], []⟩
def d_up_step : He.DefD := ⟨("up_step", none), "up_step", "up_step", defArgs S_up_step, defBody S_up_step, defScope S_up_step, [], []⟩
def d_one_step : He.DefD := ⟨("one_step", none), "one_step", "one_step", defArgs S_one_step, defBody S_one_step, defScope S_one_step, [], []⟩
def d_euclid_steps : He.DefD := ⟨("euclid_steps", none), "euclid_steps", "euclid_steps", defArgs S_euclid_steps, defBody S_euclid_steps, defScope S_euclid_steps, [], []⟩
def d_count_steps : He.DefD := ⟨("count_steps", none), "count_steps", "count_steps", defArgs S_count_steps, defBody S_count_steps, defScope S_count_steps, [], []⟩
def d_less_value : He.DefD := ⟨("less_value", none), "less_value", "less_value", defArgs S_less_value, defBody S_less_value, defScope S_less_value, [], []⟩
def d_odd_chain : He.DefD := ⟨("odd_chain", none), "odd_chain", "odd_chain", defArgs S_odd_chain, defBody S_odd_chain, defScope S_odd_chain, [], []⟩
def d_up_numbers : He.DefD := ⟨("up_numbers", none), "up_numbers", "up_numbers", defArgs S_up_numbers, defBody S_up_numbers, defScope S_up_numbers, [], []⟩
def d_less_by_chain : He.DefD := ⟨("less_by_chain", none), "less_by_chain", "less_by_chain", defArgs S_less_by_chain, defBody S_less_by_chain, defScope S_less_by_chain, [], []⟩
def d_rest_chain : He.DefD := ⟨("rest_chain", none), "rest_chain", "rest_chain", defArgs S_rest_chain, defBody S_rest_chain, defScope S_rest_chain, [], []⟩
def d_turned_less : He.DefD := ⟨("turned_less", none), "turned_less", "turned_less", defArgs S_turned_less, defBody S_turned_less, defScope S_turned_less, [], []⟩
def d_law : He.DefD := ⟨("law", none), "law", "law", defArgs S_law, defBody S_law, defScope S_law, [], []⟩
def fn : List He.DefD := [d_l_open_cells, d_l_pick, d_l_common, d_l_bottom, d_l_less, d_less_chain, d_down_step, d_near_step, d_up_step, d_one_step, d_euclid_steps, d_count_steps, d_less_value, d_odd_chain, d_up_numbers, d_less_by_chain, d_rest_chain, d_turned_less, d_law]
def glos : List He.Fa := [.glo "_law_open_cells", .glo "_law_pick", .glo "_law_common", .glo "_law_bottom", .glo "_law_less", .glo "less_chain", .glo "down_step", .glo "near_step", .glo "up_step", .glo "one_step", .glo "euclid_steps", .glo "count_steps", .glo "less_value", .glo "odd_chain", .glo "up_numbers", .glo "less_by_chain", .glo "rest_chain", .glo "turned_less", .glo "law"]
def fa : List He.Fa := glos ++ blts.map He.Fa.free
abbrev R : PySem.W.OpenRow := PySem.W.OpenLaw.row PySem.Challenge.rw_mediantrows_k93_whole_chains_with_less
def ex (K : PySem.W.Frag) : Bool := true
abbrev hk : PySem.W.Hook := He.hookX 4 fa fn [] [] ex
def ob (s : PySem.W.SharedT) : He.AlX := He.obsX 4 fa fn [] [] ex (HandSHeadRun.getT s)
theorem ob_eq (s : PySem.W.SharedT) : ob s = hk.obs s.abs := He.obsX_eq (HandSHeadRun.getT_eq s)
def loose : List Str := ["copied", "RowsError", "NotLet", "down_step", "up_step", "near_step", "one_step", "euclid_steps", "count_steps", "odd_chain", "up_numbers", "less_chain", "less_value", "turned_less", "rest_chain", "less_by_chain", "_law_open_cells", "_law_pick", "_law_common", "_law_bottom", "_law_less"]
theorem run (w : World) : HandSHeadRun.RunEq R (PySem.W.view R.prog [26]) hk ob 2000 loose w := by
  intro os
  kernel_rfl
theorem facts {P : Program} {w : World} {K : PySem.W.Frag} {h : Heap} {mg : Str → Option Value} {f : Addr} (ok : LawOk 20 b_law) (X : K.In h) (G : h.Ns mainGlobals mg) (hfa : mg ("law" : Str) = some (.ref f)) (cx : He.SaysX fa fn [] [] ex w h K) :
    ∃ fd : FuncData, (∀ (s : Shared) (v : Value), BindsTo s fd ⟨[v], []⟩ [("script", v)]) ∧ ∀ base : Heap, K.In base → base.Ns mainGlobals mg → FnG P w K mg base 5 f fd ["script"] (spLaw K) := by
  have c := cx.t.d
  have B : ∀ x ∈ blts, mg x = none := fun x hx => He.free_ok X G (He.SaysD.facts c (List.mem_append_right _ (List.mem_map_of_mem hx)))
  obtain ⟨fd_l_open_cells, F_l_open_cells⟩ := He.SaysD.def_ c 0 (d := d_l_open_cells) rfl
  have m_l_open_cells : mg "_law_open_cells" = _ := He.glo_ok X G (He.SaysD.fact c 0 (f := .glo "_law_open_cells") rfl)
  obtain ⟨fd_l_pick, F_l_pick⟩ := He.SaysD.def_ c 1 (d := d_l_pick) rfl
  have m_l_pick : mg "_law_pick" = _ := He.glo_ok X G (He.SaysD.fact c 1 (f := .glo "_law_pick") rfl)
  obtain ⟨fd_l_common, F_l_common⟩ := He.SaysD.def_ c 2 (d := d_l_common) rfl
  have m_l_common : mg "_law_common" = _ := He.glo_ok X G (He.SaysD.fact c 2 (f := .glo "_law_common") rfl)
  obtain ⟨fd_l_bottom, F_l_bottom⟩ := He.SaysD.def_ c 3 (d := d_l_bottom) rfl
  have m_l_bottom : mg "_law_bottom" = _ := He.glo_ok X G (He.SaysD.fact c 3 (f := .glo "_law_bottom") rfl)
  obtain ⟨fd_l_less, F_l_less⟩ := He.SaysD.def_ c 4 (d := d_l_less) rfl
  have m_l_less : mg "_law_less" = _ := He.glo_ok X G (He.SaysD.fact c 4 (f := .glo "_law_less") rfl)
  obtain ⟨fd_less_chain, F_less_chain⟩ := He.SaysD.def_ c 5 (d := d_less_chain) rfl
  have m_less_chain : mg "less_chain" = _ := He.glo_ok X G (He.SaysD.fact c 5 (f := .glo "less_chain") rfl)
  obtain ⟨fd_down_step, F_down_step⟩ := He.SaysD.def_ c 6 (d := d_down_step) rfl
  have m_down_step : mg "down_step" = _ := He.glo_ok X G (He.SaysD.fact c 6 (f := .glo "down_step") rfl)
  obtain ⟨fd_near_step, F_near_step⟩ := He.SaysD.def_ c 7 (d := d_near_step) rfl
  have m_near_step : mg "near_step" = _ := He.glo_ok X G (He.SaysD.fact c 7 (f := .glo "near_step") rfl)
  obtain ⟨fd_up_step, F_up_step⟩ := He.SaysD.def_ c 8 (d := d_up_step) rfl
  have m_up_step : mg "up_step" = _ := He.glo_ok X G (He.SaysD.fact c 8 (f := .glo "up_step") rfl)
  obtain ⟨fd_one_step, F_one_step⟩ := He.SaysD.def_ c 9 (d := d_one_step) rfl
  have m_one_step : mg "one_step" = _ := He.glo_ok X G (He.SaysD.fact c 9 (f := .glo "one_step") rfl)
  obtain ⟨fd_euclid_steps, F_euclid_steps⟩ := He.SaysD.def_ c 10 (d := d_euclid_steps) rfl
  have m_euclid_steps : mg "euclid_steps" = _ := He.glo_ok X G (He.SaysD.fact c 10 (f := .glo "euclid_steps") rfl)
  obtain ⟨fd_count_steps, F_count_steps⟩ := He.SaysD.def_ c 11 (d := d_count_steps) rfl
  have m_count_steps : mg "count_steps" = _ := He.glo_ok X G (He.SaysD.fact c 11 (f := .glo "count_steps") rfl)
  obtain ⟨fd_less_value, F_less_value⟩ := He.SaysD.def_ c 12 (d := d_less_value) rfl
  have m_less_value : mg "less_value" = _ := He.glo_ok X G (He.SaysD.fact c 12 (f := .glo "less_value") rfl)
  obtain ⟨fd_odd_chain, F_odd_chain⟩ := He.SaysD.def_ c 13 (d := d_odd_chain) rfl
  have m_odd_chain : mg "odd_chain" = _ := He.glo_ok X G (He.SaysD.fact c 13 (f := .glo "odd_chain") rfl)
  obtain ⟨fd_up_numbers, F_up_numbers⟩ := He.SaysD.def_ c 14 (d := d_up_numbers) rfl
  have m_up_numbers : mg "up_numbers" = _ := He.glo_ok X G (He.SaysD.fact c 14 (f := .glo "up_numbers") rfl)
  obtain ⟨fd_less_by_chain, F_less_by_chain⟩ := He.SaysD.def_ c 15 (d := d_less_by_chain) rfl
  have m_less_by_chain : mg "less_by_chain" = _ := He.glo_ok X G (He.SaysD.fact c 15 (f := .glo "less_by_chain") rfl)
  obtain ⟨fd_rest_chain, F_rest_chain⟩ := He.SaysD.def_ c 16 (d := d_rest_chain) rfl
  have m_rest_chain : mg "rest_chain" = _ := He.glo_ok X G (He.SaysD.fact c 16 (f := .glo "rest_chain") rfl)
  obtain ⟨fd_turned_less, F_turned_less⟩ := He.SaysD.def_ c 17 (d := d_turned_less) rfl
  have m_turned_less : mg "turned_less" = _ := He.glo_ok X G (He.SaysD.fact c 17 (f := .glo "turned_less") rfl)
  obtain ⟨fd_law, F_law⟩ := He.SaysD.def_ c 18 (d := d_law) rfl
  have m_law : mg "law" = _ := He.glo_ok X G (He.SaysD.fact c 18 (f := .glo "law") rfl)
  have e := hfa.symm.trans m_law
  cases e
  have b := FunD.bindsA (ps := ["script"]) F_law fun _ _ _ _ _ _ us hl => match us, hl with | [_], _ => rfl
  refine ⟨fd_law, fun s v => b s [v] rfl, fun base _ _ => ?_⟩
  have O := O_l_open_cells (P := P) (w := w) (base := base) F_l_open_cells m_l_open_cells B
  have D_l_pick := ok_l_pick (P := P) (w := w) (base := base) F_l_pick m_l_pick B
  have D_l_common := ok_l_common (P := P) (w := w) (base := base) F_l_common m_l_common B
  have D_l_bottom := ok_l_bottom (P := P) (w := w) (base := base) F_l_bottom m_l_bottom B D_l_pick D_l_common
  have D_l_less := ok_l_less (P := P) (w := w) (base := base) F_l_less m_l_less B
  have D_less_chain := ok_less_chain (P := P) (w := w) (base := base) F_less_chain m_less_chain B
  have D_down_step := ok_down_step (P := P) (w := w) (base := base) F_down_step m_down_step B
  have D_near_step := ok_near_step (P := P) (w := w) (base := base) F_near_step m_near_step B
  have D_up_step := ok_up_step (P := P) (w := w) (base := base) F_up_step m_up_step B
  have D_one_step := ok_one_step (P := P) (w := w) (base := base) F_one_step m_one_step B D_down_step D_near_step D_up_step
  have D_euclid_steps := ok_euclid_steps (P := P) (w := w) (base := base) F_euclid_steps m_euclid_steps B D_one_step
  have D_count_steps := ok_count_steps (P := P) (w := w) (base := base) F_count_steps m_count_steps B D_euclid_steps
  have D_less_value := ok_less_value (P := P) (w := w) (base := base) F_less_value m_less_value B
  have D_odd_chain := ok_odd_chain (P := P) (w := w) (base := base) F_odd_chain m_odd_chain B
  have D_up_numbers := ok_up_numbers (P := P) (w := w) (base := base) F_up_numbers m_up_numbers B D_odd_chain
  have D_less_by_chain := ok_less_by_chain (P := P) (w := w) (base := base) F_less_by_chain m_less_by_chain B D_up_numbers
  have D_rest_chain := ok_rest_chain (P := P) (w := w) (base := base) F_rest_chain m_rest_chain B D_less_chain
  have D_turned_less := ok_turned_less (P := P) (w := w) (base := base) F_turned_less m_turned_less B D_less_value D_less_chain
  exact ok_law F_law B D_l_bottom D_l_less D_less_value D_rest_chain D_less_chain D_count_steps D_turned_less D_l_pick D_l_common D_less_by_chain O ok
end Lk93
open PySem PySem.W PySem.Calls PyProof.Rows
theorem PySem.Challenge.cw_mediantrows_k93_whole_chains_with_less_holds : PySem.Challenge.rw_mediantrows_k93_whole_chains_with_less.Holds := by
  w_on; o_law
  refine HandSHeadRun.head_any (r := OpenLaw.row PySem.Challenge.rw_mediantrows_k93_whole_chains_with_less) (q := view (OpenLaw.row PySem.Challenge.rw_mediantrows_k93_whole_chains_with_less).prog [26]) (H := Lk93.hk) (ob := Lk93.ob) (M := 2000) (loose := Lk93.loose) (d := HandSHeadRun.topDef (OpenLaw.row PySem.Challenge.rw_mediantrows_k93_whole_chains_with_less).prog 26) (kwd := []) Lk93.ob_eq
    (by kernel_rfl) (fun s => by kernel_rfl) Lk93.run (by kernel_rfl) (by kernel_rfl) (by kernel_rfl) (by rfl) (by first | assumption | decide +kernel) (by decide +kernel) ⟨rfl, rfl, rfl, rfl, rfl, by decide +kernel⟩ ?hw ?hc
  case hw => w_witness2
  case hc =>
    refine Sm.walk_ofG (l := PySem.Challenge.rw_mediantrows_k93_whole_chains_with_less) (n := 63) (k := 5) (z := "script") rfl (by decide) (by kernel_rfl) ⟨rfl, by decide, by decide⟩ ?F
    intro w mg fa h Y G hmg0
    obtain ⟨K, KX, c⟩ := Y
    have hmg : mg ("law" : PySem.Str) = some (.ref fa) := by
      have e : (HandSHeadRun.topDef (OpenLaw.row PySem.Challenge.rw_mediantrows_k93_whole_chains_with_less).prog 26).name = ("law" : PySem.Str) := by kernel_rfl
      rw [← e]
      exact hmg0
    obtain ⟨fd, hb, hF⟩ := Lk93.facts (P := (PySem.Challenge.rw_mediantrows_k93_whole_chains_with_less).prog) (w := w) Lk93.ok KX G hmg c
    exact ⟨K, fd, Sm.spLaw K, KX, hb, fun H a ns hl _ hS => ⟨a, ns, rfl, hS, hl, fun _ => rfl⟩, hF⟩
