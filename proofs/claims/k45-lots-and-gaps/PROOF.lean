import PyProof.Rows.All
import Wide.All
import OpenK.AllK
import Wide.FinOn
import HandS.ForMost
import HandS.ForExc
import HandS.IsInst
import HandS.Conv
import HandS.SortInts
import HandS.CallSlots
import HandS.Wide
import HandS.TupAny
import HandS.TupMul
import HandS.Deep
import HandS.Codes
import HandS.Walk
import HandS.Zip
import HandS.Style
import HandS.Exc
import HandS.ExcOwn
import HandS.ExcField
import KE.KExcSuper
import HandS.TryMany
import HandS.Words
import HandS.WordsExc
import HandS.Ends
import HandS.RaiseMore
import KE.KRevSl
import PyProof.Draws
import PyProof.EnumMake
import PyProof.WalksMore
import KE.SortData
import HandS.Dict
import KE.DataMinMax
import HandS.SetFor
import HandS.Strs
import KE.RegKSuper
import PySem.Challenge.RW_germroads_k45_whole_lots_and_their_gaps
set_option Elab.async false
set_option linter.all false
set_option maxRecDepth 100000
set_option maxHeartbeats 4000000
namespace Mp
open PySem L2

/-! ## data and values -/
inductive D where
  | non | bl (b : Bool) | int (i : Int) | str (x : Str) | tup (xs : List D) | lst (xs : List D) | fn (x : Str)
  deriving Inhabited

mutual
def D.py : D → PyData
  | .non => .none
  | .bl b => .bool b
  | .int i => .int i
  | .str x => .str x
  | .tup xs => .tuple (D.pys xs)
  | .lst xs => .list (D.pys xs)
  | .fn _ => .none
def D.pys : List D → List PyData
  | [] => []
  | x :: r => x.py :: D.pys r
end
mutual
/-- no def within -/
def D.flat : D → Bool
  | .tup xs => D.flats xs
  | .lst xs => D.flats xs
  | .fn _ => false
  | _ => true
def D.flats : List D → Bool
  | [] => true
  | x :: r => x.flat && D.flats r
end
mutual
def D.beq : D → D → Bool
  | .non, .non => true
  | .bl a, .bl b => a == b
  | .int a, .int b => a == b
  | .str a, .str b => a == b
  | .tup a, .tup b => D.beqs a b
  | .lst a, .lst b => D.beqs a b
  | .fn a, .fn b => a == b
  | _, _ => false
def D.beqs : List D → List D → Bool
  | [], [] => true
  | x :: r, y :: s => D.beq x y && D.beqs r s
  | _, _ => false
end
mutual
theorem D.beq_eq : ∀ {a b : D}, D.beq a b = true → a = b
  | .non, b, h => by cases b <;> simp_all [D.beq]
  | .bl _, b, h => by cases b <;> simp_all [D.beq]
  | .int _, b, h => by cases b <;> simp_all [D.beq]
  | .str _, b, h => by cases b <;> simp_all [D.beq]
  | .fn _, b, h => by cases b <;> simp_all [D.beq]
  | .tup xs, b, h => by
    cases b <;> simp only [D.beq, Bool.false_eq_true] at h
    rw [D.beqs_eq h]
  | .lst xs, b, h => by
    cases b <;> simp only [D.beq, Bool.false_eq_true] at h
    rw [D.beqs_eq h]
theorem D.beqs_eq : ∀ {a b : List D}, D.beqs a b = true → a = b
  | [], [], _ => rfl
  | [], _ :: _, h => by simp [D.beqs] at h
  | _ :: _, [], h => by simp [D.beqs] at h
  | x :: r, y :: s, h => by
    simp only [D.beqs, Bool.and_eq_true] at h
    rw [D.beq_eq h.1, D.beqs_eq h.2]
end
mutual
theorem D.beq_refl : ∀ a : D, D.beq a a = true
  | .non => rfl
  | .bl _ => by simp [D.beq]
  | .int _ => by simp [D.beq]
  | .str _ => by simp [D.beq]
  | .fn _ => by simp [D.beq]
  | .tup xs => by simp only [D.beq]; exact D.beqs_refl xs
  | .lst xs => by simp only [D.beq]; exact D.beqs_refl xs
theorem D.beqs_refl : ∀ a : List D, D.beqs a a = true
  | [] => rfl
  | x :: r => by simp only [D.beqs, D.beq_refl x, D.beqs_refl r, Bool.and_self]
end
instance : DecidableEq D := fun a b => if h : D.beq a b = true then isTrue (D.beq_eq h) else isFalse (fun e => h (e ▸ D.beq_refl a))

/-- what a name holds, what an expression gives: a datum; the mutable list with the number i; a list that was just made; the script -/
inductive AV where
  | d (x : D) | cell (i : Nat) | fr (xs : List D) | scr (ns : List Int)
  deriving Inhabited, DecidableEq
/-- what a cell holds -/
inductive MC where
  | l (xs : List D)
  /-- a dict whose keys are tuples of ints; one whose keys are ints -/
  | t (kvs : List (List Int × D)) | k (kvs : List (Int × D))
  deriving Inhabited, DecidableEq
abbrev Mem := List (Option MC)
abbrev Env := List (Option AV)

/-! ## the relation to the abstract heap -/
/-- the written part, the module's names -/
structure Gm where
  K : PySem.W.Frag
  mg : Str → Option Value

def KLst (K : PySem.W.Frag) (a : Addr) (xs : List V) : Prop :=
  ∃ (o : Obj) (its : Array Value) (n : Nat), K.lookup a = some o ∧ o.cls = .type "list" ∧ o.dict = none ∧ o.data = .seq its n ∧ its.size ≤ sizeLine ∧ Vals xs its.toList
def KTup (K : PySem.W.Frag) (a : Addr) (xs : List V) : Prop :=
  ∃ (o : Obj) (its : Array Value) (n : Nat), K.lookup a = some o ∧ o.cls = .type "tuple" ∧ o.data = .seq its n ∧ its.size ≤ sizeLine ∧ Vals xs its.toList
/-- a tuple; a list that no more changes: W are the addresses that may be written -/
def LstAt (W : Addr → Prop) (H : Hp) (a : Addr) (xs : List V) : Prop := H a = some (.lst xs) ∧ ¬ W a
def TupAt (_ : Gm) (W : Addr → Prop) (H : Hp) (a : Addr) (xs : List V) : Prop := H a = some (.tup xs) ∧ ¬ W a
/-- a list that is read alone: the script -/
def ScrAt (G : Gm) (W : Addr → Prop) (H : Hp) (a : Addr) (xs : List V) : Prop := (∃ o, H a = some (.frz o (.lst xs)) ∧ ¬ W a) ∨ KLst G.K a xs
theorem LstAt.sq {K : PySem.W.Frag} {W : Addr → Prop} {H : Hp} {a : Addr} {xs : List V} (h : LstAt W H a xs) : SqL K H a xs := .of h.1
theorem TupAt.sq {G : Gm} {W : Addr → Prop} {H : Hp} {a : Addr} {xs : List V} (h : TupAt G W H a xs) : SqT G.K H a xs := .of h.1
theorem ScrAt.sq {G : Gm} {W : Addr → Prop} {H : Hp} {a : Addr} {xs : List V} (h : ScrAt G W H a xs) : SqL G.K H a xs := by
  rcases h with ⟨o, h, _⟩ | h
  · exact .inl (.inr ⟨o, h⟩)
  · exact .inr h

mutual
inductive RD (G : Gm) (W : Addr → Prop) (H : Hp) : D → V → Prop
  | non : RD G W H .non .non
  | bl (b : Bool) : RD G W H (.bl b) (.bl b)
  | int (i : Int) : RD G W H (.int i) (.int i)
  | str (x : Str) : RD G W H (.str x) (.str x)
  | tup {a : Addr} {vs : List V} {xs : List D} : TupAt G W H a vs → RDs G W H xs vs → RD G W H (.tup xs) (.ref a)
  | lst {a : Addr} {vs : List V} {xs : List D} : LstAt W H a vs → RDs G W H xs vs → RD G W H (.lst xs) (.ref a)
  | fn {x : Str} {f : Addr} : G.mg x = some (.ref f) → RD G W H (.fn x) (.ref f)
inductive RDs (G : Gm) (W : Addr → Prop) (H : Hp) : List D → List V → Prop
  | nil : RDs G W H [] []
  | cons {x : D} {xs : List D} {v : V} {vs : List V} : RD G W H x v → RDs G W H xs vs → RDs G W H (x :: xs) (v :: vs)
end

/-- from one heap to a later one -/
structure Ext (W : Addr → Prop) (H : Hp) (W' : Addr → Prop) (H' : Hp) : Prop where
  keep : ∀ a o, H a = some o → ¬ W a → H' a = some o ∧ ¬ W' a
  live : ∀ a, H a ≠ none → H' a ≠ none
theorem Ext.refl (W : Addr → Prop) (H : Hp) : Ext W H W H := ⟨fun _ _ h n => ⟨h, n⟩, fun _ h => h⟩
theorem Ext.trans {W W1 W2 : Addr → Prop} {H H1 H2 : Hp} (a : Ext W H W1 H1) (b : Ext W1 H1 W2 H2) : Ext W H W2 H2 :=
  ⟨fun c o h n => let ⟨h1, n1⟩ := a.keep c o h n; b.keep c o h1 n1, fun c h => b.live c (a.live c h)⟩
theorem Ext.fresh {W W' : Addr → Prop} {H H' : Hp} (a : Ext W H W' H') {p : Addr} (h : H' p = none) : H p = none := by
  cases e : H p with
  | none => rfl
  | some o => exact absurd h (a.live p (by rw [e]; simp))
section
variable {G : Gm} {W W' : Addr → Prop} {H H' : Hp}
theorem LstAt.ext {a : Addr} {xs : List V} (h : LstAt W H a xs) (x : Ext W H W' H') : LstAt W' H' a xs := x.keep a _ h.1 h.2
theorem TupAt.ext {a : Addr} {xs : List V} (h : TupAt G W H a xs) (x : Ext W H W' H') : TupAt G W' H' a xs := x.keep a _ h.1 h.2
theorem ScrAt.ext {a : Addr} {xs : List V} (h : ScrAt G W H a xs) (x : Ext W H W' H') : ScrAt G W' H' a xs := h.imp (fun ⟨o, h, n⟩ => ⟨o, x.keep a _ h n⟩) id
mutual
theorem RD.ext (x : Ext W H W' H') : ∀ {d : D} {v : V}, RD G W H d v → RD G W' H' d v
  | .non, _, h => by cases h; exact .non
  | .bl _, _, h => by cases h; exact .bl _
  | .int _, _, h => by cases h; exact .int _
  | .str _, _, h => by cases h; exact .str _
  | .tup _, _, h => by cases h with | tup h1 h2 => exact .tup (h1.ext x) (RDs.ext x h2)
  | .lst _, _, h => by cases h with | lst h1 h2 => exact .lst (h1.ext x) (RDs.ext x h2)
  | .fn _, _, h => by cases h with | fn h1 => exact .fn h1
theorem RDs.ext (x : Ext W H W' H') : ∀ {d : List D} {v : List V}, RDs G W H d v → RDs G W' H' d v
  | [], _, h => by cases h; exact .nil
  | _ :: _, _, h => by cases h with | cons h1 h2 => exact .cons (RD.ext x h1) (RDs.ext x h2)
end
/-- fewer addresses may be written -/
theorem Ext.less (h : ∀ a, W' a → W a) : Ext W H W' H := ⟨fun _ _ e n => ⟨e, fun z => n (h _ z)⟩, fun _ h => h⟩
theorem RD.less {d : D} {v : V} (r : RD G W H d v) (h : ∀ a, W' a → W a) : RD G W' H d v := r.ext (Ext.less h)
theorem RDs.less {d : List D} {v : List V} (r : RDs G W H d v) (h : ∀ a, W' a → W a) : RDs G W' H d v := r.ext (Ext.less h)
theorem RDs.length : ∀ {d : List D} {v : List V}, RDs G W H d v → d.length = v.length
  | [], _, h => by cases h; rfl
  | _ :: _, _, h => by cases h with | cons h1 h2 => simp [RDs.length h2]
theorem RDs.get : ∀ {d : List D} {v : List V} {i : Nat} {x : D}, RDs G W H d v → d[i]? = some x → ∃ y, v[i]? = some y ∧ RD G W H x y
  | [], _, _, _, h, e => by simp at e
  | _ :: _, _, 0, _, h, e => by cases h with | cons h1 h2 => simp at e; subst e; exact ⟨_, rfl, h1⟩
  | _ :: _, _, i + 1, x, h, e => by
    cases h with
    | cons h1 h2 =>
      obtain ⟨y, e1, r⟩ := RDs.get (i := i) h2 (by simpa using e)
      exact ⟨y, by simpa using e1, r⟩
theorem RDs.append : ∀ {d e : List D} {v w : List V}, RDs G W H d v → RDs G W H e w → RDs G W H (d ++ e) (v ++ w)
  | [], _, _, _, h, k => by cases h; exact k
  | _ :: _, _, _, _, h, k => by cases h with | cons h1 h2 => exact .cons h1 (RDs.append h2 k)
theorem RDs.take : ∀ {d : List D} {v : List V} (n : Nat), RDs G W H d v → RDs G W H (d.take n) (v.take n)
  | _, _, 0, _ => by simp; exact .nil
  | [], _, n + 1, h => by cases h; simp; exact .nil
  | _ :: _, _, n + 1, h => by cases h with | cons h1 h2 => simp; exact .cons h1 (RDs.take n h2)
theorem RDs.drop : ∀ {d : List D} {v : List V} (n : Nat), RDs G W H d v → RDs G W H (d.drop n) (v.drop n)
  | _, _, 0, h => by simpa using h
  | [], _, n + 1, h => by cases h; simp; exact .nil
  | _ :: _, _, n + 1, h => by cases h with | cons h1 h2 => simp; exact RDs.drop n h2
theorem RDs.set {x : D} {y : V} (r : RD G W H x y) : ∀ {d : List D} {v : List V} (n : Nat), RDs G W H d v → RDs G W H (d.set n x) (v.set n y)
  | [], _, _, h => by cases h; exact .nil
  | _ :: _, _, 0, h => by cases h with | cons h1 h2 => exact .cons r h2
  | _ :: _, _, n + 1, h => by cases h with | cons h1 h2 => exact .cons h1 (RDs.set r n h2)
theorem RDs.dropLast : ∀ {d : List D} {v : List V}, RDs G W H d v → RDs G W H d.dropLast v.dropLast := fun {d v} h => by
  rw [List.dropLast_eq_take, List.dropLast_eq_take, h.length]
  exact h.take _
theorem RDs.eraseIdx : ∀ {d : List D} {v : List V} (n : Nat), RDs G W H d v → RDs G W H (d.eraseIdx n) (v.eraseIdx n)
  | [], _, _, h => by cases h; exact .nil
  | _ :: _, _, 0, h => by cases h with | cons h1 h2 => exact h2
  | _ :: _, _, n + 1, h => by cases h with | cons h1 h2 => exact .cons h1 (RDs.eraseIdx n h2)
theorem RDs.replicate (k : Nat) {x : D} {y : V} (r : RD G W H x y) : RDs G W H (List.replicate k x) (List.replicate k y) := by
  induction k with
  | zero => exact .nil
  | succ k ih => exact .cons r ih
theorem RDs.flat_rep {d : List D} {v : List V} (h : RDs G W H d v) : ∀ k : Nat, RDs G W H (List.replicate k d).flatten (List.replicate k v).flatten
  | 0 => .nil
  | k + 1 => by rw [List.replicate_succ, List.replicate_succ, List.flatten_cons, List.flatten_cons]; exact h.append (RDs.flat_rep h k)
theorem RDs.reverse : ∀ {d : List D} {v : List V}, RDs G W H d v → RDs G W H d.reverse v.reverse
  | [], _, h => by cases h; exact .nil
  | _ :: _, _, h => by
    cases h with
    | cons h1 h2 => rw [List.reverse_cons, List.reverse_cons]; exact (RDs.reverse h2).append (.cons h1 .nil)
theorem RDs.ints : ∀ {ns : List Int} {v : List V}, RDs G W H (ns.map D.int) v → v = ns.map V.int
  | [], _, h => by cases h; rfl
  | n :: r, _, h => by
    cases h with
    | cons h1 h2 => cases h1; rw [RDs.ints h2]; rfl
theorem RDs.of_ints : ∀ (ns : List Int), RDs G W H (ns.map D.int) (ns.map V.int)
  | [] => .nil
  | n :: r => .cons (.int n) (RDs.of_ints r)
theorem RDs.bls : ∀ {ns : List Bool} {v : List V}, RDs G W H (ns.map D.bl) v → v = ns.map V.bl
  | [], _, h => by cases h; rfl
  | n :: r, _, h => by
    cases h with
    | cons h1 h2 => cases h1; rw [RDs.bls h2]; rfl
mutual
theorem RD.dp : ∀ {d : D} {v : V}, RD G W H d v → d.flat = true → Dp G.K H v d.py
  | .non, _, h, _ => by cases h; exact .non
  | .bl _, _, h, _ => by cases h; exact .bl _
  | .int _, _, h, _ => by cases h; exact .int _
  | .str _, _, h, _ => by cases h; exact .str _
  | .tup _, _, h, f => by cases h with | tup h1 h2 => exact .tup h1.sq (RDs.dp h2 (by simpa [D.flat] using f))
  | .lst _, _, h, f => by cases h with | lst h1 h2 => exact .lst h1.sq (RDs.dp h2 (by simpa [D.flat] using f))
  | .fn _, _, _, f => by simp [D.flat] at f
theorem RDs.dp : ∀ {d : List D} {v : List V}, RDs G W H d v → D.flats d = true → DpAll G.K H v (D.pys d)
  | [], _, h, _ => by cases h; exact .nil
  | _ :: _, _, h, f => by
    simp only [D.flats, Bool.and_eq_true] at f
    cases h with | cons h1 h2 => exact .cons (RD.dp h1 f.1) (RDs.dp h2 f.2)
end
end
end Mp

namespace Mp
open PySem L2

/-! ## outcomes -/
structure Exc where
  cls : Str
  fs : List (Str × D)
inductive Out (α : Type) where
  | ok (a : α) (M : Mem) | exc (e : Exc) (M : Mem) | bad
def Out.bind {α β : Type} : Out α → (α → Mem → Out β) → Out β
  | .ok a M, f => f a M
  | .exc e M, _ => .exc e M
  | .bad, _ => .bad
theorem Out.assoc {α β γ : Type} (r : Out α) (f : α → Mem → Out β) (g : β → Mem → Out γ) : (r.bind f).bind g = r.bind fun a M => (f a M).bind g := by cases r <;> rfl
theorem Out.bind_ok {α β : Type} (a : α) (M : Mem) (f : α → Mem → Out β) : (Out.ok a M).bind f = f a M := rfl

/-! ## the state -/
def Bar (W Z : Addr → Prop) : Addr → Prop := fun a => W a ∨ Z a
def add1 (W : Addr → Prop) (p : Addr) : Addr → Prop := fun a => W a ∨ a = p
def CellR (G : Gm) (B : Addr → Prop) (H : Hp) (p : Addr) : MC → Prop
  | .l xs => ∃ vs, H p = some (.lst vs) ∧ RDs G B H xs vs
  | .t kvs => ∃ us, H p = some (.dT (List.zip (kvs.map fun e => e.1.map Sum.inl) us)) ∧ RDs G B H (kvs.map (·.2)) us
  | .k kvs => ∃ us, H p = some (.dK (List.zip (kvs.map fun e => Sum.inl e.1) us)) ∧ RDs G B H (kvs.map (·.2)) us
structure Rel (G : Gm) (W Z : Addr → Prop) (φ : List Addr) (M : Mem) (H : Hp) : Prop where
  len : φ.length = M.length
  nd : φ.Nodup
  wt : ∀ a, W a → H a ≠ none
  zt : ∀ a, Z a → H a ≠ none
  sep : ∀ (i : Nat) p, φ[i]? = some p → H p ≠ none ∧ ¬ Z p
  cell : ∀ (i : Nat) p c, φ[i]? = some p → M[i]? = some (some c) → W p ∧ CellR G (Bar W Z) H p c
/-- a settled value -/
def SR (G : Gm) (B : Addr → Prop) (φ : List Addr) (H : Hp) : AV → V → Prop
  | .d x, v => RD G B H x v
  | .cell i, v => ∃ p, φ[i]? = some p ∧ v = .ref p
  | .fr xs, v => RD G B H (.lst xs) v
  | .scr ns, v => ∃ a, v = .ref a ∧ ScrAt G B H a (ns.map V.int)
/-- what an expression gives: H₀ is the heap ahead of it -/
def VR (G : Gm) (W Z : Addr → Prop) (φ : List Addr) (H₀ H : Hp) (M : Mem) : AV → V → Prop
  | .fr xs, v => ∃ p vs, v = .ref p ∧ H₀ p = none ∧ H p = some (.lst vs) ∧ ¬ Bar W Z p ∧ RDs G (add1 (Bar W Z) p) H xs vs ∧ Rel G W (add1 Z p) φ M H
  | x, v => SR G (Bar W Z) φ H x v
structure EnvR (G : Gm) (B : Addr → Prop) (φ : List Addr) (H : Hp) (env : Env) (σ : St) : Prop where
  len : env.length = σ.length
  at_ : ∀ (i : Nat) av, env[i]? = some (some av) → ∃ v, σ[i]? = some (some v) ∧ SR G B φ H av v
def XR (G : Gm) (B : Addr → Prop) (H : Hp) (e : Exc) (c : Value) (d : Option Addr) : Prop :=
  ∃ C, G.mg e.cls = some (.ref C) ∧ c = .ref C ∧ ((e.fs = [] ∧ d = none) ∨ ∃ dd fs, d = some dd ∧ H dd = some (.xd fs) ∧ ¬ B dd ∧ ∀ f x, e.fs.lookup f = some x → ∃ v, fs.lookup f = some v ∧ RD G B H x v)

section
variable {G : Gm} {W W' Z B B' : Addr → Prop} {φ : List Addr} {H H' H₀ : Hp} {M M' : Mem} {env : Env} {σ : St}
theorem Ext.bar (x : Ext W H W' H') : Ext (Bar W Z) H (Bar W' Z) H' :=
  ⟨fun a o h n => ⟨(x.keep a o h fun z => n (.inl z)).1, fun z => z.elim (x.keep a o h fun z => n (.inl z)).2 fun z => n (.inr z)⟩, x.live⟩
theorem Ext.bar1 {p : Addr} (x : Ext B H B' H') (hp : H p = none) : Ext B H (add1 B' p) H' :=
  ⟨fun a o h n => ⟨(x.keep a o h n).1, fun z => z.elim (x.keep a o h n).2 fun z => by subst z; rw [hp] at h; cases h⟩, x.live⟩
theorem SR.ext {av : AV} {v : V} (h : SR G B φ H av v) (x : Ext B H B' H') : SR G B' φ H' av v := by
  cases av with
  | d y => exact RD.ext x h
  | cell i => exact h
  | fr xs => exact RD.ext x h
  | scr ns => obtain ⟨a, e, s⟩ := h; exact ⟨a, e, s.ext x⟩
theorem SR.app {av : AV} {v : V} (h : SR G B φ H av v) (ψ : List Addr) : SR G B (φ ++ ψ) H av v := by
  cases av with
  | d y => exact h
  | cell i => obtain ⟨p, e, r⟩ := h; exact ⟨p, by rw [List.getElem?_append_left]; exact e; exact (List.getElem?_eq_some_iff.mp e).1, r⟩
  | fr xs => exact h
  | scr ns => exact h
theorem EnvR.ext (h : EnvR G B φ H env σ) (x : Ext B H B' H') : EnvR G B' φ H' env σ :=
  ⟨h.len, fun i av e => let ⟨v, e1, r⟩ := h.at_ i av e; ⟨v, e1, r.ext x⟩⟩
theorem EnvR.app (h : EnvR G B φ H env σ) (ψ : List Addr) : EnvR G B (φ ++ ψ) H env σ :=
  ⟨h.len, fun i av e => let ⟨v, e1, r⟩ := h.at_ i av e; ⟨v, e1, r.app ψ⟩⟩
theorem VR.sr {av : AV} {v : V} (h : VR G W Z φ H₀ H M av v) : SR G (Bar W Z) φ H av v := by
  cases av with
  | d y => exact h
  | cell i => exact h
  | scr ns => exact h
  | fr xs =>
    obtain ⟨p, vs, e, _, h1, h2, h3, _⟩ := h
    subst e
    exact .lst ⟨h1, h2⟩ (h3.less fun a z => .inl z)
/-- of a value that is no new list -/
theorem VR.of {av : AV} {v : V} (h : SR G (Bar W Z) φ H av v) (n : ∀ xs, av ≠ .fr xs) : VR G W Z φ H₀ H M av v := by
  cases av with
  | fr xs => exact absurd rfl (n xs)
  | _ => exact h
theorem VR.back {H1 : Hp} {W1 : Addr → Prop} {av : AV} {v : V} (h : VR G W' Z φ H1 H' M av v) (x : Ext W H W1 H1) : VR G W' Z φ H H' M av v := by
  cases av with
  | fr xs => obtain ⟨p, vs, e, h0, r⟩ := h; exact ⟨p, vs, e, x.fresh h0, r⟩
  | _ => exact h
theorem CellR.ext {p : Addr} {c : MC} (h : CellR G B H p c) (x : Ext B H B' H') (e : H' p = H p) : CellR G B' H' p c := by
  cases c with
  | l xs => obtain ⟨vs, h1, r⟩ := h; exact ⟨vs, by rw [e]; exact h1, r.ext x⟩
  | t kvs => obtain ⟨vs, h1, r⟩ := h; exact ⟨vs, by rw [e]; exact h1, r.ext x⟩
  | k kvs => obtain ⟨vs, h1, r⟩ := h; exact ⟨vs, by rw [e]; exact h1, r.ext x⟩
theorem Rel.fresh (R : Rel G W Z φ M H) {p : Addr} (h : H p = none) : ¬ W p := fun z => R.wt p z h
/-- a new object -/
theorem Ext.laid (R : Rel G W Z φ M H) {p : Addr} {o : HO} (h : H p = none) : Ext W H W (upd H p o) :=
  ⟨fun a u e n => ⟨by rw [upd_ne (ne_of_none e h)]; exact e, n⟩, fun a e => by
    by_cases q : a = p
    · subst q; exact absurd h e
    · rw [upd_ne q]; exact e⟩
theorem Rel.laid (R : Rel G W Z φ M H) {p : Addr} {o : HO} (h : H p = none) : Rel G W (add1 Z p) φ M (upd H p o) := by
  have x := Ext.laid R (o := o) h
  refine ⟨R.len, R.nd, fun a w => x.live a (R.wt a w), fun a z => z.elim (fun z => x.live a (R.zt a z)) fun z => by subst z; rw [upd_same]; simp, fun i q e => ⟨x.live q (R.sep i q e).1, fun z => z.elim (R.sep i q e).2 fun z => by subst z; exact (R.sep i _ e).1 h⟩, fun i q c e1 e2 => ?_⟩
  obtain ⟨w, r⟩ := R.cell i q c e1 e2
  have hq : q ≠ p := fun z => by subst z; exact R.wt _ w h
  refine ⟨w, r.ext ?_ (upd_ne hq)⟩
  refine ⟨fun a u e n => ?_, x.live⟩
  have ha : a ≠ p := ne_of_none e h
  refine ⟨by rw [upd_ne ha]; exact e, fun z => ?_⟩
  rcases z with z | z | z
  · exact n (.inl z)
  · exact n (.inr z)
  · exact ha z
theorem Rel.unbar {p : Addr} (R : Rel G W (add1 Z p) φ M H) : Rel G W Z φ M H := by
  refine ⟨R.len, R.nd, R.wt, fun a z => R.zt a (.inl z), fun i q e => ⟨(R.sep i q e).1, fun z => (R.sep i q e).2 (.inl z)⟩, fun i q c e1 e2 => ?_⟩
  obtain ⟨w, r⟩ := R.cell i q c e1 e2
  exact ⟨w, r.ext (Ext.less fun a z => z.imp id .inl) rfl⟩
theorem Rel.laid0 (R : Rel G W Z φ M H) {p : Addr} {o : HO} (h : H p = none) : Rel G W Z φ M (upd H p o) := (R.laid h).unbar
end

/-! ## readings -/
section
variable {α β : Type}
/-- what an outcome asks: R tells of the result -/
def RunG (R : (Addr → Prop) → Hp → Mem → α → β → Prop) (G : Gm) (Z : Addr → Prop) (φ : List Addr) (W : Addr → Prop) (H : Hp) (r : Out α) (Q : β → Hp → Prop) (E : XK) : Prop :=
  match r with
  | .ok av M' => ∀ W' H' v, Rel G W' Z φ M' H' → Ext W H W' H' → R W' H' M' av v → Q v H'
  | .exc e M' => ∀ W' H' c d, Rel G W' Z φ M' H' → Ext W H W' H' → XR G (Bar W' Z) H' e c d → E c d H'
  | .bad => False
end
abbrev Run (G : Gm) (Z : Addr → Prop) (φ : List Addr) (W : Addr → Prop) (H : Hp) (r : Out AV) (Q : VK) (E : XK) : Prop :=
  RunG (fun W' H' M' av v => VR G W' Z φ H H' M' av v) G Z φ W H r Q E
def SRs (G : Gm) (B : Addr → Prop) (φ : List Addr) (H : Hp) : List AV → List V → Prop
  | [], [] => True
  | x :: xs, v :: vs => SR G B φ H x v ∧ SRs G B φ H xs vs
  | _, _ => False
theorem SRs.ext {G : Gm} {B B' : Addr → Prop} {φ : List Addr} {H H' : Hp} (x : Ext B H B' H') : ∀ {xs : List AV} {vs : List V}, SRs G B φ H xs vs → SRs G B' φ H' xs vs
  | [], [], _ => trivial
  | [], _ :: _, h => h.elim
  | _ :: _, [], h => h.elim
  | _ :: _, _ :: _, ⟨h1, h2⟩ => ⟨h1.ext x, SRs.ext x h2⟩
abbrev RunL (G : Gm) (Z : Addr → Prop) (φ : List Addr) (W : Addr → Prop) (H : Hp) (r : Out (List AV)) (Q : List V → Hp → Prop) (E : XK) : Prop :=
  RunG (fun W' H' _ avs vs => SRs G (Bar W' Z) φ H' avs vs) G Z φ W H r Q E
abbrev RunB (G : Gm) (Z : Addr → Prop) (φ : List Addr) (W : Addr → Prop) (H : Hp) (r : Out Bool) (Q : Bool → Hp → Prop) (E : XK) : Prop :=
  RunG (fun _ _ _ a b => a = b) G Z φ W H r Q E

abbrev SE := Env → Mem → Out AV
abbrev SL := Env → Mem → Out (List AV)
abbrev SB := Env → Mem → Out Bool
def rdE (G : Gm) (f : SE) (E : WX) : TE := fun σ H Q => ∃ W Z φ env M, Rel G W Z φ M H ∧ EnvR G (Bar W Z) φ H env σ ∧ Run G Z φ W H (f env M) Q fun c d H' => E c d σ H'
def rdL (G : Gm) (f : SL) (E : WX) : TA := fun σ H Q => ∃ W Z φ env M, Rel G W Z φ M H ∧ EnvR G (Bar W Z) φ H env σ ∧ RunL G Z φ W H (f env M) Q fun c d H' => E c d σ H'
def rdB (G : Gm) (f : SB) (E : WX) : TT := fun σ H Q => ∃ W Z φ env M, Rel G W Z φ M H ∧ EnvR G (Bar W Z) φ H env σ ∧ RunB G Z φ W H (f env M) Q fun c d H' => E c d σ H'

abbrev gm (X : Cx) : Gm := ⟨X.K, X.mg⟩
/-- the expression is modelled by f -/
abbrev GE (X : Cx) (E : WX) (e : Expr) (f : SE) : Prop := PE X e (rdE (gm X) f E)
abbrev GL (X : Cx) (E : WX) (es : List Expr) (f : SL) : Prop := PA X es (rdL (gm X) f E)
abbrev GB (X : Cx) (E : WX) (e : Expr) (f : SB) : Prop := PT X e (rdB (gm X) f E)
abbrev GBw (X : Cx) (E : WX) (e : Expr) (f : SB) : Prop := PW X e (rdB (gm X) f E)

section
variable {X : Cx} {e : Expr} {es : List Expr}
theorem PE.imp {t t' : TE} (h : PE X e t) (k : ∀ σ H Q, t' σ H Q → t σ H Q) : PE X e t' := ⟨fun pins s σ H Q I q => h.run pins s σ H Q I (k σ H Q q)⟩
theorem PT.imp {t t' : TT} (h : PT X e t) (k : ∀ σ H Q, t' σ H Q → t σ H Q) : PT X e t' := ⟨fun pins s σ H Q I q => h.run pins s σ H Q I (k σ H Q q)⟩
theorem PW.imp {t t' : TT} (h : PW X e t) (k : ∀ σ H Q, t' σ H Q → t σ H Q) : PW X e t' := ⟨fun wh pins s σ H Q I q => h.run wh pins s σ H Q I (k σ H Q q)⟩
theorem PA.imp {t t' : TA} (h : PA X es t) (k : ∀ σ H Q, t' σ H Q → t σ H Q) : PA X es t' := ⟨fun pos pins s σ H Q I q => h.run pos pins s σ H Q I (k σ H Q q)⟩
end

section
variable {G : Gm} {W W1 Z : Addr → Prop} {φ : List Addr} {H H1 : Hp} {M : Mem} {env : Env} {σ : St} {Q : VK} {E : XK}
theorem Run.later {r : Out AV} (x : Ext W H W1 H1) (h : Run G Z φ W H r Q E) : Run G Z φ W1 H1 r Q E := by
  cases r with
  | ok a M' => exact fun W' H' v R y z => h W' H' v R (x.trans y) (z.back x)
  | exc e M' => exact fun W' H' c d R y z => h W' H' c d R (x.trans y) z
  | bad => exact h
theorem RunL.later {r : Out (List AV)} {Q : List V → Hp → Prop} (x : Ext W H W1 H1) (h : RunL G Z φ W H r Q E) : RunL G Z φ W1 H1 r Q E := by
  cases r with
  | ok a M' => exact fun W' H' v R y z => h W' H' v R (x.trans y) z
  | exc e M' => exact fun W' H' c d R y z => h W' H' c d R (x.trans y) z
  | bad => exact h
theorem RunB.later {r : Out Bool} {Q : Bool → Hp → Prop} (x : Ext W H W1 H1) (h : RunB G Z φ W H r Q E) : RunB G Z φ W1 H1 r Q E := by
  cases r with
  | ok a M' => exact fun W' H' v R y z => h W' H' v R (x.trans y) z
  | exc e M' => exact fun W' H' c d R y z => h W' H' c d R (x.trans y) z
  | bad => exact h
theorem RunG.imp {α β : Type} {R : (Addr → Prop) → Hp → Mem → α → β → Prop} {r : Out α} {Q Q' : β → Hp → Prop} (h : RunG R G Z φ W H r Q E) (k : ∀ v H, Q v H → Q' v H) : RunG R G Z φ W H r Q' E := by
  cases r with
  | ok a M' => exact fun W' H' v R y z => k _ _ (h W' H' v R y z)
  | exc e M' => exact h
  | bad => exact h
/-- an outcome bound: the first part, then the rest from where it ends -/
theorem RunG.bind {α β γ δ : Type} {R : (Addr → Prop) → Hp → Mem → α → β → Prop} {R2 : (Addr → Prop) → Hp → (Addr → Prop) → Hp → Mem → γ → δ → Prop} {r : Out α} {k : α → Mem → Out γ} {Q : δ → Hp → Prop}
    (h : RunG (R2 W H) G Z φ W H (r.bind k) Q E)
    (later : ∀ W1 H1 a M1, Ext W H W1 H1 → RunG (R2 W H) G Z φ W H (k a M1) Q E → RunG (R2 W1 H1) G Z φ W1 H1 (k a M1) Q E) :
    RunG R G Z φ W H r (fun v H1 => ∃ W1 M1 a, r = .ok a M1 ∧ Rel G W1 Z φ M1 H1 ∧ Ext W H W1 H1 ∧ R W1 H1 M1 a v ∧ RunG (R2 W1 H1) G Z φ W1 H1 (k a M1) Q E) E := by
  cases r with
  | ok a M' => exact fun W' H' v R1 y z => ⟨W', M', a, rfl, R1, y, z, later _ _ _ _ y h⟩
  | exc e M' => exact h
  | bad => exact h
theorem Run.bind {α β : Type} {R : (Addr → Prop) → Hp → Mem → α → β → Prop} {r : Out α} {k : α → Mem → Out AV} (h : Run G Z φ W H (r.bind k) Q E) :
    RunG R G Z φ W H r (fun v H1 => ∃ W1 M1 a, r = .ok a M1 ∧ Rel G W1 Z φ M1 H1 ∧ Ext W H W1 H1 ∧ R W1 H1 M1 a v ∧ Run G Z φ W1 H1 (k a M1) Q E) E :=
  RunG.bind (R2 := fun W H W' H' M' av v => VR G W' Z φ H H' M' av v) h fun _ _ _ _ x q => Run.later x q
theorem RunL.bind {α β : Type} {R : (Addr → Prop) → Hp → Mem → α → β → Prop} {r : Out α} {k : α → Mem → Out (List AV)} {Q : List V → Hp → Prop} (h : RunL G Z φ W H (r.bind k) Q E) :
    RunG R G Z φ W H r (fun v H1 => ∃ W1 M1 a, r = .ok a M1 ∧ Rel G W1 Z φ M1 H1 ∧ Ext W H W1 H1 ∧ R W1 H1 M1 a v ∧ RunL G Z φ W1 H1 (k a M1) Q E) E :=
  RunG.bind (R2 := fun _ _ W' H' _ avs vs => SRs G (Bar W' Z) φ H' avs vs) h fun _ _ _ _ x q => RunL.later x q
theorem RunB.bind {α β : Type} {R : (Addr → Prop) → Hp → Mem → α → β → Prop} {r : Out α} {k : α → Mem → Out Bool} {Q : Bool → Hp → Prop} (h : RunB G Z φ W H (r.bind k) Q E) :
    RunG R G Z φ W H r (fun v H1 => ∃ W1 M1 a, r = .ok a M1 ∧ Rel G W1 Z φ M1 H1 ∧ Ext W H W1 H1 ∧ R W1 H1 M1 a v ∧ RunB G Z φ W1 H1 (k a M1) Q E) E :=
  RunG.bind (R2 := fun _ _ _ _ _ a b => a = b) h fun _ _ _ _ x q => RunB.later x q
/-- the end: a value at hand -/
theorem Run.ok {av : AV} {v : V} (R : Rel G W Z φ M H) (h : Run G Z φ W H (.ok av M) Q E) (r : SR G (Bar W Z) φ H av v) (n : ∀ xs, av ≠ .fr xs) : Q v H := h W H v R (Ext.refl _ _) (.of r n)
/-- the end: a new list -/
theorem Run.new {xs : List D} {vs : List V} (R : Rel G W Z φ M H) (h : Run G Z φ W H (.ok (.fr xs) M) Q E) (r : RDs G (Bar W Z) H xs vs) : ∀ p, H p = none → Q (.ref p) (upd H p (.lst vs)) := fun p hp => by
  have x := Ext.laid R (o := .lst vs) hp
  refine h W _ _ (R.laid0 hp) x ⟨p, vs, rfl, hp, upd_same, ?_, r.ext ?_, R.laid hp⟩
  · exact fun z => z.elim (fun z => R.wt p z hp) fun z => R.zt p z hp
  · exact Ext.bar1 x.bar hp
end
end Mp

namespace Mp
open PySem L2

/-! ## the functions -/
def AV.settle : AV → AV
  | .fr xs => .d (.lst xs)
  | x => x
/-- the items of a list, of a tuple -/
def lstOf (M : Mem) : AV → Option (List D)
  | .d (.lst xs) => some xs
  | .fr xs => some xs
  | .cell i => match M[i]? with | some (some (.l xs)) => some xs | _ => none
  | .scr ns => some (ns.map D.int)
  | _ => none
def tupOf : AV → Option (List D)
  | .d (.tup xs) => some xs
  | _ => none
/-- as a datum that is looked at alone -/
def look (M : Mem) : AV → Option D
  | .d x => some x
  | .scr _ => none
  | a => (lstOf M a).map D.lst
/-- as a datum that is kept: a cell is closed -/
def keepD : AV → Mem → Option (D × Mem)
  | .d x, M => some (x, M)
  | .fr xs, M => some (.lst xs, M)
  | .cell i, M => match M[i]? with | some (some (.l xs)) => some (.lst xs, M.set i none) | _ => none
  | .scr _, _ => none
def keepDs : List AV → Mem → Option (List D × Mem)
  | [], M => some ([], M)
  | a :: r, M => match keepD a M with
    | none => none
    | some (x, M1) => match keepDs r M1 with
      | none => none
      | some (xs, M2) => some (x :: xs, M2)

def sVar (i : Nat) : SE := fun env M => match env[i]? with
  | some (some av) => .ok av.settle M
  | _ => .bad
def sCon (d : D) : SE := fun _ M => .ok (.d d) M
def sTwo (op : AV → AV → Mem → Out AV) (f g : SE) : SE := fun env M => (f env M).bind fun x M1 => (g env M1).bind fun y M2 => op x y M2
def sOne (op : AV → Mem → Out AV) (f : SE) : SE := fun env M => (f env M).bind fun x M1 => op x M1
/-- the size of a product is in order -/
def mulOk (i j : Int) : Bool := decide (i.natAbs < 2 ^ 64) || decide (j.natAbs < 2 ^ 64) || decide (i.natAbs.log2 + j.natAbs.log2 < 100000000)
def divOk (j : Int) : Bool := decide (j.natAbs < 2 ^ 30) || decide (j.natAbs.log2 < 9000)
def guard {α : Type} (b : Bool) (r : Out α) : Out α := if b = true then r else .bad

def binop : Operator → AV → AV → Mem → Out AV
  | .Add, .d (.int i), .d (.int j), M => .ok (.d (.int (i + j))) M
  | .Add, .d (.str x), .d (.str y), M => guard (decide (x.length + y.length ≤ sizeLine)) (.ok (.d (.str (x ++ y))) M)
  | .Add, .d (.tup xs), .d (.tup ys), M => guard (decide (xs.length + ys.length ≤ sizeLine)) (.ok (.d (.tup (xs ++ ys))) M)
  | .Add, .d (.lst xs), .d (.lst ys), M => guard (decide (xs.length + ys.length ≤ sizeLine)) (.ok (.fr (xs ++ ys)) M)
  | .Sub, .d (.int i), .d (.int j), M => .ok (.d (.int (i - j))) M
  | .Mult, .d (.int i), .d (.int j), M => guard (mulOk i j) (.ok (.d (.int (i * j))) M)
  | .Mult, .d (.lst xs), .d (.int j), M => guard (decide (-(2 ^ 63) ≤ j ∧ j < 2 ^ 63 ∧ xs.length * j.toNat ≤ sizeLine)) (.ok (.fr (List.replicate j.toNat xs).flatten) M)
  | .Mult, .d (.tup xs), .d (.int j), M => guard (decide (xs ≠ [] ∧ -1000 ≤ j ∧ j ≤ 1000 ∧ xs.length ≤ 1000)) (.ok (.d (.tup (List.replicate j.toNat xs).flatten)) M)
  | .FloorDiv, .d (.int i), .d (.int j), M => if 0 < j then guard (divOk j) (.ok (.d (.int (i / j))) M) else guard (decide (j ≠ 0) && divOk j) (.ok (.d (.int (i.fdiv j))) M)
  | .Mod, .d (.int i), .d (.int j), M => if 0 < j then .ok (.d (.int (i % j))) M else guard (decide (j ≠ 0)) (.ok (.d (.int (i.fmod j))) M)
  | .Pow, .d (.int i), .d (.int j), M => guard (decide (0 ≤ j ∧ j ≤ 1000000 ∧ i.natAbs < 2 ^ 64)) (.ok (.d (.int (i ^ j.toNat))) M)
  | _, _, _, _ => .bad
/-- lists are brought to their items first -/
def opnd (M : Mem) (a : AV) : AV := match lstOf M a, a with
  | some xs, .cell _ => .d (.lst xs)
  | some xs, .fr _ => .d (.lst xs)
  | _, a => a
def sBin (op : Operator) (f g : SE) : SE := sTwo (fun x y M => binop op (opnd M x) (opnd M y) M) f g
def negOp : AV → Mem → Out AV
  | .d (.int i), M => .ok (.d (.int (-i))) M
  | _, _ => .bad
def sNeg (f : SE) : SE := sOne negOp f

/-! ## how settled values are met -/
section
variable {G : Gm} {W W' Z B : Addr → Prop} {φ : List Addr} {H H' H₀ : Hp} {M : Mem} {env : Env} {σ : St} {Q : VK} {E : XK}
theorem SR.settle {av : AV} {v : V} (h : SR G B φ H av v) : SR G B φ H av.settle v := by cases av <;> exact h
theorem settle_ne {av : AV} : ∀ xs, av.settle ≠ .fr xs := by cases av <;> intro xs h <;> cases h
/-- a list is met, however it is held -/
theorem Rel.lst (R : Rel G W Z φ M H) {av : AV} {v : V} {xs : List D} (r : SR G (Bar W Z) φ H av v) (h : lstOf M av = some xs) : ∃ p vs, v = .ref p ∧ SqL G.K H p vs ∧ RDs G (Bar W Z) H xs vs ∧ ((∀ ns, av ≠ .scr ns) → H p = some (.lst vs)) := by
  unfold lstOf at h
  split at h
  · cases h; cases r with | lst h1 h2 => exact ⟨_, _, rfl, h1.sq, h2, fun _ => h1.1⟩
  · cases h; cases r with | lst h1 h2 => exact ⟨_, _, rfl, h1.sq, h2, fun _ => h1.1⟩
  · obtain ⟨p, e, rfl⟩ := r
    split at h
    · rename_i e2
      cases h
      obtain ⟨_, vs, h1, h2⟩ := R.cell _ _ _ e e2
      exact ⟨p, vs, rfl, .of h1, h2, fun _ => h1⟩
    · cases h
  · cases h; obtain ⟨a, rfl, s⟩ := r; exact ⟨a, _, rfl, s.sq, RDs.of_ints _, fun n => absurd rfl (n _)⟩
  · cases h
theorem tup_met {av : AV} {v : V} {xs : List D} (r : SR G B φ H av v) (h : tupOf av = some xs) : ∃ p vs, v = .ref p ∧ TupAt G B H p vs ∧ RDs G B H xs vs := by
  unfold tupOf at h
  split at h
  · cases h; cases r with | tup h1 h2 => exact ⟨_, _, rfl, h1, h2⟩
  · cases h
/-- a list brought to its items: enough to read it -/
inductive Opd (G : Gm) (B : Addr → Prop) (H : Hp) : AV → V → Prop where
  | d {x : D} {v : V} : (∀ xs, x ≠ .lst xs) → RD G B H x v → Opd G B H (.d x) v
  | l {xs : List D} {p : Addr} {vs : List V} : H p = some (.lst vs) → RDs G B H xs vs → Opd G B H (.d (.lst xs)) (.ref p)
  | no {a : AV} {v : V} : (∀ x, a ≠ .d x) → Opd G B H a v
theorem Rel.opd (R : Rel G W Z φ M H) {av : AV} {v : V} (r : SR G (Bar W Z) φ H av v) : Opd G (Bar W Z) H (opnd M av) v := by
  cases av with
  | d x =>
    have e : opnd M (.d x) = .d x := by unfold opnd; split <;> simp_all
    rw [e]
    cases x with
    | lst xs => cases r with | lst h1 h2 => exact .l h1.1 h2
    | _ => exact .d (fun _ h => by cases h) r
  | scr ns => exact .no fun x h => by unfold opnd at h; split at h <;> simp_all
  | fr xs =>
    have e : opnd M (.fr xs) = .d (.lst xs) := rfl
    rw [e]
    cases r with | lst h1 h2 => exact .l h1.1 h2
  | cell i =>
    cases e : lstOf M (.cell i) with
    | none => exact .no fun x h => by unfold opnd at h; rw [e] at h; cases h
    | some xs =>
      have e2 : opnd M (.cell i) = .d (.lst xs) := by unfold opnd; rw [e]
      rw [e2]
      obtain ⟨p, vs, rfl, _, h2, h3⟩ := R.lst r e
      exact .l (h3 fun _ h => by cases h) h2
end

/-! ## a tuple times 1, 0 or less -/
section
open PySem.Spec PyProof.Rows
set_option maxHeartbeats 4000000
theorem tuple_mul1 (l : Addr) (items : Array Value) (n : Nat) (dd : Option Addr) (sl : Array (Option Value)) (u : Tok) :
    Meets (Builtin.«tuple.__mul__» ⟨[.ref l, .int 1 u], []⟩) (fun _ R s => s.heap.get? l = some { cls := .type "tuple", dict := dd, data := .seq items n, slots := sl } ∧ R (.ok (.ret (Value.ref l))) s) :=
  .of_wp fun prog w A R s h => by
    obtain ⟨hp, g, d, tk, os⟩ := s
    obtain ⟨hl, h⟩ := h
    have f1 := AutoSeq1.idx_int
    have c1 : (items.isEmpty || (1 : Int) == 1) = true := by rw [show ((1 : Int) == 1) = true from rfl, Bool.or_true]
    wp_walk using wpAny_loadPart' hl
    exact ⟨_, rfl, h⟩
theorem tuple_mul0 (l : Addr) (items : Array Value) (n : Nat) (dd : Option Addr) (sl : Array (Option Value)) (x : Int) (u : Tok) (c0 : (decide (x < -(2 ^ 63)) || decide (x ≥ 2 ^ 63)) = false) (c1 : (items.isEmpty || x == 1) = false) (c2 : (decide (x ≤ 0) || items.isEmpty) = true) :
    Meets (Builtin.«tuple.__mul__» ⟨[.ref l, .int x u], []⟩) (fun _ R s => s.heap.get? l = some { cls := .type "tuple", dict := dd, data := .seq items n, slots := sl } ∧
      R (.ok (.ret (Value.ref s.heap.objs.size))) { s with heap := s.heap.push { cls := Value.type "tuple", data := Data.seq #[] }, toks := s.toks }) :=
  .of_wp fun prog w A R s h => by
    obtain ⟨hp, g, d, tk, os⟩ := s
    obtain ⟨hl, h⟩ := h
    have f1 := AutoSeq1.idx_int
    wp_walk using wpAny_loadPart' hl
    repeat (first
      | (refine wpAny_ite_false (decide_eq_false (by rw [c0]; exact Bool.false_ne_true)) ?_; wp_walk using wpAny_loadPart' hl)
      | (refine wpAny_ite_false (decide_eq_false (by rw [c1]; exact Bool.false_ne_true)) ?_; wp_walk using wpAny_loadPart' hl)
      | (refine wpAny_ite_true (decide_eq_true c2) ?_; wp_walk using wpAny_loadPart' hl))
    exact ⟨_, rfl, h⟩
/-- a tuple once, or not at all -/
def rRepU (K : PySem.W.Frag) : R2 := fun x y H Q => ∃ l k xs, x = .ref l ∧ y = .int k ∧ SqT K H l xs ∧ xs ≠ [] ∧ -1000 ≤ k ∧ k ≤ 1 ∧ (k = 1 → Q (.ref l) H) ∧ (k ≤ 0 → ∀ p, H p = none → Q (.ref p) (upd H p (.tup [])))
theorem op_repU {X : Cx} : OpR X (binaryOp .Mult) (rRepU X.K) := by
  intro pins s σ H x y v u Q I rx ry h
  obtain ⟨l, k, xs, rfl, rfl, hT, hne, h1, h2, q1, q0⟩ := h
  cases rx
  obtain ⟨t, rfl⟩ := ry
  obtain ⟨its, r, ⟨⟨cls, dd, data, sl⟩, ho, hc, n, hd⟩, hs⟩ := I.tuple hT
  simp only at hc hd
  subst hc hd
  have hle : its.length = xs.length := r.length.symm
  have hn : its ≠ [] := fun e => hne (by
    rw [e] at hle
    exact List.eq_nil_of_length_eq_zero hle.symm)
  have hi : its.toArray.isEmpty = false := by
    cases its with
    | nil => exact absurd rfl hn
    | cons a b => rfl
  by_cases hk : k = 1
  · subst hk
    refine wpAny_binaryOp_repeat_ref (T := "tuple") (U := "int") (by decide) ⟨_, ho, rfl⟩ (fun s' => typeIs_int s' 1 t) noFill_tuple_mul F.fills_int_mul F.slot_int_rmul repeat_tuple F.slot_int_index.lookup
      (call_meets F.slot_int_rmul (typeIs_int s 1 t) F.entry_int_rmul (F.args_int_rmul_2 _ _) (int_rmul_tuple 1 t l its.toArray n dd sl)
        ⟨ho, rfl, ⟨_, ho, rfl⟩, call_meets F.slot_tuple_mul ⟨_, ho, rfl⟩ F.entry_tuple_mul (F.args_tuple_mul_2 _ _) (tuple_mul1 l its.toArray n dd sl t) ⟨ho, ?_⟩⟩)
    exact ⟨.ref l, H, I, rfl, q1 rfl⟩
  · have c0 : (decide (k < -(2 ^ 63)) || decide (k ≥ 2 ^ 63)) = false := by
      rw [decide_eq_false (by omega), decide_eq_false (by omega)] <;> rfl
    have c1 : (its.toArray.isEmpty || k == 1) = false := by
      rw [hi, Bool.false_or]
      exact beq_eq_false_iff_ne.mpr (by omega)
    have c2 : (decide (k ≤ 0) || its.toArray.isEmpty) = true := by
      rw [hi, Bool.or_false]
      exact decide_eq_true (by omega)
    refine wpAny_binaryOp_repeat_ref (T := "tuple") (U := "int") (by decide) ⟨_, ho, rfl⟩ (fun s' => typeIs_int s' k t) noFill_tuple_mul F.fills_int_mul F.slot_int_rmul repeat_tuple F.slot_int_index.lookup
      (call_meets F.slot_int_rmul (typeIs_int s k t) F.entry_int_rmul (F.args_int_rmul_2 _ _) (int_rmul_tuple k t l its.toArray n dd sl)
        ⟨ho, rfl, ⟨_, ho, rfl⟩, call_meets F.slot_tuple_mul ⟨_, ho, rfl⟩ F.entry_tuple_mul (F.args_tuple_mul_2 _ _) (tuple_mul0 l its.toArray n dd sl k t c0 c1 c2) ⟨ho, ?_⟩⟩)
    refine ⟨.ref s.heap.objs.size, _, I.laid (t' := s.toks) (o := .tup []) (fun b ob q => Heap.get?_push_of_some _ q) (Nat.le_refl _) ?_, rfl, q0 (by omega) _ (I.hok.fresh (Nat.le_refl _))⟩
    exact ⟨by rw [sizeLine_eq]; exact Nat.zero_le _, [], .nil, IsTup.new _ _⟩
end
/-! ## the rules -/
section
variable {X : Cx} {E : WX} {a b c e : Expr} {f g : SE} {pos : Pos}
theorem ge_var {i : Nat} {x : Str} (hN : X.N[i]? = some x) (hv : Vis X.env.scope x) (hd : (x == ("__debug__" : Str)) = false) (hcd : (x == ("__classdict__" : Str)) = false) : GE X E (.Name x pos) (sVar i) :=
  PE.imp (pe_var hN hv hd hcd) fun σ H Q ⟨W, Z, φ, env, M, R, Er, h⟩ => by
    unfold sVar at h
    split at h
    · rename_i av e
      obtain ⟨v, e1, r⟩ := Er.at_ i av e
      exact ⟨v, e1, Run.ok R h r.settle settle_ne⟩
    · exact h.elim
theorem ge_con {d : D} {v : V} (h : PE X e (tC v)) (r : ∀ B H, RD (gm X) B H d v) : GE X E e (sCon d) :=
  PE.imp h fun σ H Q ⟨W, Z, φ, env, M, R, Er, h⟩ => Run.ok R h (r _ _) (fun _ h => by cases h)
/-- two operands, then an operation by values -/
theorem ge_two {op : AV → AV → Mem → Out AV} {r : R2} (hab : ∀ {ta tb : TE}, PE X a ta → PE X b tb → PE X e (tOp r ta tb)) (ha : GE X E a f) (hb : GE X E b g)
    (hr : ∀ W Z φ M H x y v u Q E, Rel (gm X) W Z φ M H → SR (gm X) (Bar W Z) φ H x v → SR (gm X) (Bar W Z) φ H y u → Run (gm X) Z φ W H (op x y M) Q E → r v u H Q) : GE X E e (sTwo op f g) :=
  PE.imp (hab ha hb) fun σ H Q ⟨W, Z, φ, env, M, R, Er, h⟩ =>
    ⟨W, Z, φ, env, M, R, Er, (Run.bind h).imp fun v H1 ⟨W1, M1, x, _, R1, x1, r1, h2⟩ =>
      ⟨W1, Z, φ, env, M1, R1, Er.ext x1.bar, (Run.bind h2).imp fun u H2 ⟨W2, M2, y, _, R2, x2, r2, h4⟩ => hr W2 Z φ M2 H2 x y v u Q _ R2 (r1.sr.ext x2.bar) r2.sr h4⟩⟩
theorem ge_one {op : AV → Mem → Out AV} {r : V → Hp → VK → Prop} (hab : ∀ {ta : TE}, PE X a ta → PE X e (tUn r ta)) (ha : GE X E a f)
    (hr : ∀ W Z φ M H x v Q E, Rel (gm X) W Z φ M H → SR (gm X) (Bar W Z) φ H x v → Run (gm X) Z φ W H (op x M) Q E → r v H Q) : GE X E e (sOne op f) :=
  PE.imp (hab ha) fun σ H Q ⟨W, Z, φ, env, M, R, Er, h⟩ =>
    ⟨W, Z, φ, env, M, R, Er, (Run.bind h).imp fun v H1 ⟨W1, M1, x, _, R1, x1, r1, h2⟩ => hr W1 Z φ M1 H1 x v Q _ R1 r1.sr h2⟩
theorem guard_run {α : Type} {b : Bool} {r : Out α} : ∀ {P : Out α → Prop}, P (guard b r) → ¬ P .bad → b = true ∧ P r := fun {P} h n => by
  unfold guard at h
  split at h
  · exact ⟨by assumption, h⟩
  · exact absurd h n
theorem mulOk_ok {i j : Int} (h : mulOk i j = true) : IntMulOk i j := by
  unfold mulOk at h
  simp only [Bool.or_eq_true, decide_eq_true_eq] at h
  rcases h with (h | h) | h
  · exact .of_left (intBits_le_64 (by omega) (by omega))
  · exact .of_right (intBits_le_64 (by omega) (by omega))
  · intro z
    rw [Bool.and_eq_true] at z
    have z2 := z.2
    unfold Builtin.Int.intTooBig at z2
    have z3 := of_decide_eq_true z2
    have e : bitsLine = 134217728 := by decide
    have b : ∀ k : Int, Builtin.Int.intBits k ≤ k.natAbs.log2 + 1 := fun k => by
      unfold Builtin.Int.intBits
      split <;> omega
    have h1 := b i
    have h2 := b j
    rw [e] at z3
    omega
theorem divOk_ok {i j : Int} (h : divOk j = true) : Builtin.divisionGoesByPylong i j = false := by
  unfold divOk at h
  simp only [Bool.or_eq_true, decide_eq_true_eq] at h
  rcases h with h | h
  · exact PyProof.noPylong_small (by omega)
  · exact PyProof.noPylong_of_log2 h
theorem op_mulA : OpR X (binaryOp .Mult) (rI IntMulOk fun i j => .int (i * j)) := opI fun _ _ _ _ _ _ _ hc q => PyProof.Rows.mul_int q hc
theorem op_fdivA : OpR X (binaryOp .FloorDiv) (rI (fun _ j => j ≠ 0 ∧ divOk j = true) fun i j => .int (i.fdiv j)) := opI fun _ _ _ _ _ _ _ hc q => PyProof.Rows.floordiv_int hc.1 q (.inl (divOk_ok hc.2))
def rBin (K : PySem.W.Frag) : Operator → R2
  | .Add => fun x y H Q => (((∃ i j, x = .int i ∧ y = .int j ∧ Q (.int (i + j)) H) ∨ (∃ i j, x = .str i ∧ y = .str j ∧ i.length + j.length ≤ sizeLine ∧ Q (.str (i ++ j)) H)) ∨ rCatA K x y H Q) ∨ rCat x y H Q
  | .Sub => rI0 fun i j => .int (i - j)
  | .Mult => fun x y H Q => ((rI IntMulOk (fun i j => .int (i * j)) x y H Q ∨ rRep x y H Q) ∨ rRepT K x y H Q) ∨ rRepU K x y H Q
  | .FloorDiv => rI (fun _ j => j ≠ 0 ∧ divOk j = true) fun i j => .int (i.fdiv j)
  | .Mod => rI (fun _ j => j ≠ 0) fun i j => .int (i.fmod j)
  | .Pow => rI CPow fun i j => .int (i ^ j.toNat)
  | _ => fun _ _ _ _ => False
theorem rBin_ok : ∀ op : Operator, OpR X (binaryOp op) (rBin X.K op)
  | .Add => ((OpR.or (op_add (X := X)) op_add_str).or op_catA).or op_cat
  | .Sub => op_sub
  | .Mult => (((op_mulA (X := X)).or op_rep).or op_repT).or op_repU
  | .FloorDiv => op_fdivA
  | .Mod => op_modN
  | .Pow => op_pow
  | .MatMult => fun _ _ _ _ _ _ _ _ _ _ _ _ h => h.elim
  | .Div => fun _ _ _ _ _ _ _ _ _ _ _ _ h => h.elim
  | .LShift => fun _ _ _ _ _ _ _ _ _ _ _ _ h => h.elim
  | .RShift => fun _ _ _ _ _ _ _ _ _ _ _ _ h => h.elim
  | .BitOr => fun _ _ _ _ _ _ _ _ _ _ _ _ h => h.elim
  | .BitXor => fun _ _ _ _ _ _ _ _ _ _ _ _ h => h.elim
  | .BitAnd => fun _ _ _ _ _ _ _ _ _ _ _ _ h => h.elim

end
section
variable {G : Gm} {W Z B : Addr → Prop} {φ : List Addr} {H : Hp} {M : Mem} {Q : VK} {E : XK} {v u : V}
theorem Opd.int {i : Int} (o : Opd G B H (.d (.int i)) v) : v = .int i := by
  cases o with
  | d _ r => cases r; rfl
  | no n => exact absurd rfl (n _)
theorem Opd.bl {i : Bool} (o : Opd G B H (.d (.bl i)) v) : v = .bl i := by
  cases o with
  | d _ r => cases r; rfl
  | no n => exact absurd rfl (n _)
theorem Opd.non (o : Opd G B H (.d .non) v) : v = .non := by
  cases o with
  | d _ r => cases r; rfl
  | no n => exact absurd rfl (n _)
theorem Opd.str {i : Str} (o : Opd G B H (.d (.str i)) v) : v = .str i := by
  cases o with
  | d _ r => cases r; rfl
  | no n => exact absurd rfl (n _)
theorem Opd.tup {xs : List D} (o : Opd G B H (.d (.tup xs)) v) : ∃ p vs, v = .ref p ∧ TupAt G B H p vs ∧ RDs G B H xs vs := by
  cases o with
  | d _ r => cases r with | tup h1 h2 => exact ⟨_, _, rfl, h1, h2⟩
  | no n => exact absurd rfl (n _)
theorem Opd.lst {xs : List D} (o : Opd G B H (.d (.lst xs)) v) : ∃ p vs, v = .ref p ∧ H p = some (.lst vs) ∧ RDs G B H xs vs := by
  cases o with
  | d n r => exact absurd rfl (n xs)
  | l h r => exact ⟨_, _, rfl, h, r⟩
  | no n => exact absurd rfl (n _)
theorem not_bad {r : Out AV} (h : Run G Z φ W H r Q E) (e : r = .bad) : False := by rw [e] at h; exact h
/-- a new tuple -/
theorem Run.tup {xs : List D} {vs : List V} (R : Rel G W Z φ M H) (h : Run G Z φ W H (.ok (.d (.tup xs)) M) Q E) (r : RDs G (Bar W Z) H xs vs) : ∀ p, H p = none → Q (.ref p) (upd H p (.tup vs)) := fun p hp => by
  have x := Ext.laid R (o := .tup vs) hp
  refine h W _ _ (R.laid0 hp) x ?_
  show RD G (Bar W Z) _ _ _
  refine .tup ⟨upd_same, fun z => z.elim (fun z => R.wt p z hp) fun z => R.zt p z hp⟩ (r.ext x.bar)
theorem binop_run {op : Operator} {a b : AV} (R : Rel G W Z φ M H) (o1 : Opd G (Bar W Z) H a v) (o2 : Opd G (Bar W Z) H b u) (h : Run G Z φ W H (binop op a b M) Q E) : rBin G.K op v u H Q := by
  unfold binop at h
  split at h
  · rw [o1.int, o2.int]; exact .inl (.inl (.inl ⟨_, _, rfl, rfl, Run.ok R h (.int _) (fun _ z => by cases z)⟩))
  · obtain ⟨g, h⟩ := guard_run (P := fun r => Run G Z φ W H r Q E) h (fun z => z)
    rw [o1.str, o2.str]; exact .inl (.inl (.inr ⟨_, _, rfl, rfl, of_decide_eq_true g, Run.ok R h (.str _) (fun _ z => by cases z)⟩))
  · obtain ⟨g, h⟩ := guard_run (P := fun r => Run G Z φ W H r Q E) h (fun z => z)
    obtain ⟨p, vs, rfl, t1, r1⟩ := o1.tup
    obtain ⟨q, us, rfl, t2, r2⟩ := o2.tup
    refine .inl (.inr ⟨p, q, vs, us, rfl, rfl, t1.sq, t2.sq, by rw [← r1.length, ← r2.length]; exact of_decide_eq_true g, fun e => ?_, fun e e2 => ?_, fun _ _ => Run.tup R h (r1.append r2)⟩)
    · subst e
      cases r1
      exact Run.ok R h (.tup t2 r2) (fun _ z => by cases z)
    · subst e2
      cases r2
      rw [List.append_nil] at h
      exact Run.ok R h (.tup t1 r1) (fun _ z => by cases z)
  · obtain ⟨g, h⟩ := guard_run (P := fun r => Run G Z φ W H r Q E) h (fun z => z)
    obtain ⟨p, vs, rfl, t1, r1⟩ := o1.lst
    obtain ⟨q, us, rfl, t2, r2⟩ := o2.lst
    exact .inr ⟨p, q, vs, us, rfl, rfl, t1, t2, by rw [← r1.length, ← r2.length]; exact of_decide_eq_true g, Run.new R h (r1.append r2)⟩
  · rw [o1.int, o2.int]; exact ⟨_, _, rfl, rfl, Run.ok R h (.int _) (fun _ z => by cases z)⟩
  · obtain ⟨g, h⟩ := guard_run (P := fun r => Run G Z φ W H r Q E) h (fun z => z)
    rw [o1.int, o2.int]; exact .inl (.inl (.inl ⟨_, _, rfl, rfl, mulOk_ok g, Run.ok R h (.int _) (fun _ z => by cases z)⟩))
  · obtain ⟨g, h⟩ := guard_run (P := fun r => Run G Z φ W H r Q E) h (fun z => z)
    obtain ⟨p, vs, rfl, t1, r1⟩ := o1.lst
    have g := of_decide_eq_true g
    rw [o2.int]; exact .inl (.inl (.inr ⟨p, _, vs, rfl, rfl, t1, g.1, g.2.1, by rw [← r1.length]; exact g.2.2, Run.new R h (r1.flat_rep _)⟩))
  · rename_i xs j
    obtain ⟨g, h⟩ := guard_run (P := fun r => Run G Z φ W H r Q E) h (fun z => z)
    obtain ⟨p, vs, rfl, t1, r1⟩ := o1.tup
    have g := of_decide_eq_true g
    have ne : vs ≠ [] := fun z => by subst z; cases r1; exact g.1 rfl
    rw [o2.int]
    by_cases h2 : 2 ≤ j
    · exact .inl (.inr ⟨p, _, vs, rfl, rfl, t1.sq, ne, h2, g.2.2.1, by rw [← r1.length]; exact g.2.2.2, Run.tup R h (r1.flat_rep _)⟩)
    · refine .inr ⟨p, _, vs, rfl, rfl, t1.sq, ne, g.2.1, by omega, fun e => ?_, fun e => ?_⟩
      · subst e
        rw [show (List.replicate (1 : Int).toNat xs).flatten = xs by rw [show (1 : Int).toNat = 1 from rfl, List.replicate_one, List.flatten_singleton]] at h
        exact Run.ok R h (.tup t1 r1) (fun _ z => by cases z)
      · rw [show j.toNat = 0 by omega, List.replicate_zero, List.flatten_nil] at h
        exact Run.tup R h .nil
  · rw [o1.int, o2.int]
    split at h
    · rename_i hj
      obtain ⟨g, h⟩ := guard_run (P := fun r => Run G Z φ W H r Q E) h (fun z => z)
      refine ⟨_, _, rfl, rfl, ⟨by omega, g⟩, ?_⟩
      dsimp only
      rw [Int.fdiv_eq_ediv_of_nonneg _ (Int.le_of_lt hj)]
      exact Run.ok R h (.int _) (fun _ z => by cases z)
    · obtain ⟨g, h⟩ := guard_run (P := fun r => Run G Z φ W H r Q E) h (fun z => z)
      rw [Bool.and_eq_true] at g
      exact ⟨_, _, rfl, rfl, ⟨of_decide_eq_true g.1, g.2⟩, Run.ok R h (.int _) (fun _ z => by cases z)⟩
  · rw [o1.int, o2.int]
    split at h
    · rename_i hj
      refine ⟨_, _, rfl, rfl, by omega, ?_⟩
      dsimp only
      rw [Int.fmod_eq_emod_of_nonneg _ (Int.le_of_lt hj)]
      exact Run.ok R h (.int _) (fun _ z => by cases z)
    · obtain ⟨g, h⟩ := guard_run (P := fun r => Run G Z φ W H r Q E) h (fun z => z)
      exact ⟨_, _, rfl, rfl, of_decide_eq_true g, Run.ok R h (.int _) (fun _ z => by cases z)⟩
  · obtain ⟨g, h⟩ := guard_run (P := fun r => Run G Z φ W H r Q E) h (fun z => z)
    have g' := of_decide_eq_true g
    rw [o1.int, o2.int]; exact ⟨_, _, rfl, rfl, g', Run.ok R h (.int _) (fun _ z => by cases z)⟩
  · exact h.elim
end
section
variable {X : Cx} {E : WX} {a b c e : Expr} {f g : SE} {pos : Pos}
theorem ge_bin {op : Operator} (ha : GE X E a f) (hb : GE X E b g) : GE X E (.BinOp a op b pos) (sBin op f g) :=
  ge_two (fun ha hb => pe_op (rBin_ok op) ha hb) ha hb fun W Z φ M H x y v u Q E R r1 r2 h => binop_run R (R.opd r1) (R.opd r2) h
theorem ge_neg (ha : GE X E a f) : GE X E (.UnaryOp .USub a pos) (sNeg f) :=
  ge_one (fun ha => pe_un un_neg ha) ha fun W Z φ M H x v Q E R r1 h => by
    unfold negOp at h
    split at h
    · cases r1; exact ⟨_, rfl, Run.ok R h (.int _) (fun _ z => by cases z)⟩
    · exact h.elim
end
end Mp

namespace Mp
open PySem L2 PyProof.Rows

/-! ## comparisons -/
def D.eqv (a b : D) : Bool := PyData.eqv a.py b.py
def D.ok (a : D) : Bool := a.flat && SeqAt.shaped a.py
def AV.plain : AV → Bool
  | .scr _ => false
  | _ => true
def isNone : AV → Bool
  | .d .non => true
  | _ => false
def D.scal : D → Bool
  | .non => true | .bl _ => true | .int _ => true | .str _ => true | _ => false
def cmpv : CmpOp → Mem → AV → AV → Option Bool
  | .Eq, M, x, y => match look M x, look M y with
    | some a, some b => if a.ok && b.ok then some (D.eqv a b) else none
    | _, _ => none
  | .NotEq, M, x, y => match look M x, look M y with
    | some a, some b => if a.ok && b.ok then some (!D.eqv a b) else none
    | _, _ => none
  | .Lt, _, .d (.int i), .d (.int j) => some (decide (i < j))
  | .LtE, _, .d (.int i), .d (.int j) => some (decide (i ≤ j))
  | .Gt, _, .d (.int i), .d (.int j) => some (decide (j < i))
  | .GtE, _, .d (.int i), .d (.int j) => some (decide (j ≤ i))
  | .Is, _, x, .d .non => some (isNone x)
  | .IsNot, _, x, .d .non => some (!isNone x)
  | .In, M, x, y => match look M x, lstOf M y, tupOf y with
    | some a, some ys, _ => if a.ok && (D.lst ys).ok && y.plain then some (ys.any fun z => D.eqv z a) else none
    | some a, none, some ys => if a.scal && ys.all D.scal then some (ys.any fun z => D.eqv z a) else if a.ok && (D.tup ys).ok && y.plain then some (ys.any fun z => D.eqv z a) else none
    | _, _, _ => none
  | .NotIn, M, x, y => match look M x, lstOf M y, tupOf y with
    | some a, some ys, _ => if a.ok && (D.lst ys).ok && y.plain then some (!ys.any fun z => D.eqv z a) else none
    | some a, none, some ys => if a.scal && ys.all D.scal then some (!ys.any fun z => D.eqv z a) else if a.ok && (D.tup ys).ok && y.plain then some (!ys.any fun z => D.eqv z a) else none
    | _, _, _ => none
  | _, _, _, _ => none
def cmpop (op : CmpOp) (x y : AV) (M : Mem) : Out AV := match cmpv op M x y with
  | some b => .ok (.d (.bl b)) M
  | none => .bad
def sCmp (op : CmpOp) (f g : SE) : SE := sTwo (cmpop op) f g

section
variable {G : Gm} {W Z B : Addr → Prop} {φ : List Addr} {H : Hp} {M : Mem} {Q : VK} {E : XK} {v u : V}
/-- a settled value looked at -/
theorem Rel.look (R : Rel G W Z φ M H) {av : AV} {d : D} (r : SR G (Bar W Z) φ H av v) (h : look M av = some d) (f : d.flat = true) : Dp G.K H v d.py := by
  cases av with
  | d x => cases h; exact RD.dp r f
  | scr ns => cases h
  | fr xs =>
    have e : d = .lst xs := by unfold Mp.look at h; simp [lstOf] at h; exact h.symm
    subst e
    exact RD.dp r f
  | cell i =>
    unfold Mp.look at h
    simp only [Option.map_eq_some_iff] at h
    obtain ⟨xs, e, rfl⟩ := h
    obtain ⟨p, vs, rfl, h1, h2, _⟩ := R.lst r e
    exact .lst h1 (RDs.dp h2 (by simpa [D.flat] using f))
theorem isNone_ok {av : AV} (r : SR G B φ H av v) : decide (v = .non) = isNone av := by
  cases av with
  | d x => cases r <;> simp [isNone]
  | scr ns => obtain ⟨a, rfl, _⟩ := r; simp [isNone]
  | fr xs => cases r; simp [isNone]
  | cell i => obtain ⟨p, _, rfl⟩ := r; simp [isNone]
theorem scal_flatV {d : D} (r : RD G B H d v) (s : d.scal = true) : flatV v = true := by cases r <;> simp_all [D.scal, flatV]
theorem scals_flatV : ∀ {d : List D} {v : List V}, RDs G B H d v → d.all D.scal = true → v.all flatV = true
  | [], _, h, _ => by cases h; rfl
  | _ :: _, _, h, s => by
    simp only [List.all_cons, Bool.and_eq_true] at s ⊢
    cases h with | cons h1 h2 => simp only [List.all_cons, Bool.and_eq_true]; exact ⟨scal_flatV h1 s.1, scals_flatV h2 s.2⟩
theorem scal_eqV {d e : D} (r : RD G B H d v) (q : RD G B H e u) (s : d.scal = true) (t : e.scal = true) : eqV v u = D.eqv d e := by
  cases r <;> simp only [D.scal, Bool.false_eq_true] at s <;> cases q <;> simp only [D.scal, Bool.false_eq_true] at t <;> rfl
theorem scals_inV {d : D} (q : RD G B H d u) (t : d.scal = true) : ∀ {ds : List D} {vs : List V}, RDs G B H ds vs → ds.all D.scal = true → inV u vs = ds.any fun z => D.eqv z d
  | [], _, h, _ => by cases h; rfl
  | _ :: _, _, h, s => by
    simp only [List.all_cons, Bool.and_eq_true] at s
    cases h with
    | cons h1 h2 =>
      have ih := scals_inV q t h2 s.2
      unfold inV at ih ⊢
      rw [List.any_cons, List.any_cons, ih, scal_eqV h1 q s.1 t]
end
def rInT (K : PySem.W.Frag) (neg : Bool) : R2 := fun x y H Q => ∃ d ds, Dp K H x d ∧ Dp K H y (.tuple ds) ∧ SeqAt.shaped d = true ∧ SeqAt.shaped (.tuple ds) = true ∧ Q (.bl (neg != ds.any fun z => PyData.eqv z d)) H
theorem op_inT {X : Cx} (hu : X.A.units + 65 < cLine) : OpR X (compareOp .In) (rInT X.K false) := by
  intro pins s σ H x y v u Q I rx ry h
  obtain ⟨d, ds, hd, he, sd, se, q⟩ := h
  obtain ⟨as, r1⟩ := Dp.reads I d x v hd rx
  obtain ⟨bs, r2⟩ := Dp.reads I (.tuple ds) y u he ry
  refine SeqAt.in_tuple_reads r2 r1 (SeqAt.canLay_of_shaped se) (SeqAt.canLay_of_shaped sd) (room_in_shaped sd hu) ⟨.bl _, H, I, rfl, ?_⟩
  simpa using q
theorem op_notInT {X : Cx} (hu : X.A.units + 65 < cLine) : OpR X (compareOp .NotIn) (rInT X.K true) := by
  intro pins s σ H x y v u Q I rx ry h
  obtain ⟨d, ds, hd, he, sd, se, q⟩ := h
  obtain ⟨as, r1⟩ := Dp.reads I d x v hd rx
  obtain ⟨bs, r2⟩ := Dp.reads I (.tuple ds) y u he ry
  refine SeqAt.notIn_tuple_reads r2 r1 (SeqAt.canLay_of_shaped se) (SeqAt.canLay_of_shaped sd) (room_in_shaped sd hu) ⟨.bl _, H, I, rfl, ?_⟩
  simpa using q
def rCmp (K : PySem.W.Frag) : CmpOp → R2
  | .Eq => rEqD K
  | .NotEq => rNeD K
  | .Lt => rI0 fun i j => .bl (decide (i < j))
  | .LtE => rI0 fun i j => .bl (decide (i ≤ j))
  | .Gt => rI0 fun i j => .bl (decide (j < i))
  | .GtE => rI0 fun i j => .bl (decide (j ≤ i))
  | .Is => fun x y H Q => y = .non ∧ Q (.bl (decide (x = .non))) H
  | .IsNot => fun x y H Q => y = .non ∧ Q (.bl (!decide (x = .non))) H
  | .In => fun x y H Q => (rInD K x y H Q ∨ rIn K false x y H Q) ∨ rInT K false x y H Q
  | .NotIn => fun x y H Q => (rNotInD K x y H Q ∨ rIn K true x y H Q) ∨ rInT K true x y H Q
theorem rCmp_ok {X : Cx} (hu : X.A.units + 65 < cLine) : ∀ op : CmpOp, OpR X (compareOp op) (rCmp X.K op)
  | .Eq => op_eqD (by omega)
  | .NotEq => op_neD (by omega)
  | .Lt => op_lt
  | .LtE => op_le
  | .Gt => op_gt
  | .GtE => op_ge
  | .Is => op_isN
  | .IsNot => op_notN
  | .In => ((op_inD hu).or op_in_seq).or (op_inT hu)
  | .NotIn => ((op_notInD hu).or op_notIn_seq).or (op_notInT hu)
theorem pys_any (a : D) : ∀ ys : List D, ((D.pys ys).any fun z => PyData.eqv z a.py) = ys.any fun z => D.eqv z a
  | [] => rfl
  | y :: ys => by simp only [D.pys, List.any_cons, pys_any a ys]; rfl
theorem cmp_run {G : Gm} {W Z : Addr → Prop} {φ : List Addr} {H : Hp} {M : Mem} {Q : VK} {E : XK} {v u : V} {op : CmpOp} {x y : AV} (R : Rel G W Z φ M H) (r1 : SR G (Bar W Z) φ H x v) (r2 : SR G (Bar W Z) φ H y u)
    (h : Run G Z φ W H (cmpop op x y M) Q E) : rCmp G.K op v u H Q := by
  unfold cmpop at h
  split at h
  · rename_i b e
    have fin : ∀ c, c = b → Q (.bl c) H := fun c z => by subst z; exact Run.ok R h (.bl _) (fun _ z => by cases z)
    clear h
    unfold cmpv at e
    split at e
    · split at e
      · rename_i a c ha hc
        split at e
        · rename_i ok
          cases e
          simp only [D.ok, Bool.and_eq_true] at ok
          exact ⟨_, _, R.look r1 ha ok.1.1, R.look r2 hc ok.2.1, ok.1.2, ok.2.2, fin _ rfl⟩
        · cases e
      · cases e
    · split at e
      · rename_i a c ha hc
        split at e
        · rename_i ok
          cases e
          simp only [D.ok, Bool.and_eq_true] at ok
          exact ⟨_, _, R.look r1 ha ok.1.1, R.look r2 hc ok.2.1, ok.1.2, ok.2.2, fin _ rfl⟩
        · cases e
      · cases e
    · cases e; cases r1; cases r2; exact ⟨_, _, rfl, rfl, fin _ rfl⟩
    · cases e; cases r1; cases r2; exact ⟨_, _, rfl, rfl, fin _ rfl⟩
    · cases e; cases r1; cases r2; exact ⟨_, _, rfl, rfl, fin _ rfl⟩
    · cases e; cases r1; cases r2; exact ⟨_, _, rfl, rfl, fin _ rfl⟩
    · cases e; cases r2; exact ⟨rfl, fin _ (isNone_ok r1)⟩
    · cases e; cases r2; exact ⟨rfl, fin _ (by rw [isNone_ok r1])⟩
    · split at e
      · rename_i a ys ha hy
        split at e
        · rename_i ok
          cases e
          simp only [D.ok, Bool.and_eq_true] at ok
          obtain ⟨⟨⟨o1, o2⟩, o3, o4⟩, o5⟩ := ok
          obtain ⟨p, vs, rfl, h1, h2, h3⟩ := R.lst r2 hy
          refine .inl (.inl ⟨_, _, R.look r1 ha o1, .lst h1 (RDs.dp h2 (by simpa [D.flat] using o3)), o2, o4, fin _ ?_⟩)
          exact pys_any a ys
        · cases e
      · rename_i a ys ha hy ht
        split at e
        · rename_i ok
          cases e
          simp only [Bool.and_eq_true] at ok
          obtain ⟨p, vs, rfl, h1, h2⟩ := tup_met r2 ht
          have ra : RD G (Bar W Z) H a v := by
            cases x with
            | d z => cases ha; exact r1
            | _ => (simp [Mp.look] at ha; try (obtain ⟨_, _, z⟩ := ha; rw [← z] at ok; simp [D.scal] at ok))
          refine .inl (.inr ⟨p, vs, rfl, .inr h1.sq, scal_flatV ra ok.1, scals_flatV h2 ok.2, ?_⟩)
          rw [if_neg Bool.false_ne_true]
          exact fin _ (scals_inV ra ok.1 h2 ok.2)
        · split at e
          · rename_i ok
            cases e
            simp only [D.ok, Bool.and_eq_true] at ok
            obtain ⟨⟨⟨o1, o2⟩, o3, o4⟩, o5⟩ := ok
            obtain ⟨p, vs, rfl, h1, h2⟩ := tup_met r2 ht
            refine .inr ⟨_, _, R.look r1 ha o1, .tup h1.sq (RDs.dp h2 (by simpa [D.flat] using o3)), o2, o4, fin _ ?_⟩
            rw [pys_any a ys]
            simp
          · cases e
      · cases e
    · split at e
      · rename_i a ys ha hy
        split at e
        · rename_i ok
          cases e
          simp only [D.ok, Bool.and_eq_true] at ok
          obtain ⟨⟨⟨o1, o2⟩, o3, o4⟩, o5⟩ := ok
          obtain ⟨p, vs, rfl, h1, h2, h3⟩ := R.lst r2 hy
          refine .inl (.inl ⟨_, _, R.look r1 ha o1, .lst h1 (RDs.dp h2 (by simpa [D.flat] using o3)), o2, o4, fin _ ?_⟩)
          rw [pys_any a ys]
        · cases e
      · rename_i a ys ha hy ht
        split at e
        · rename_i ok
          cases e
          simp only [Bool.and_eq_true] at ok
          obtain ⟨p, vs, rfl, h1, h2⟩ := tup_met r2 ht
          have ra : RD G (Bar W Z) H a v := by
            cases x with
            | d z => cases ha; exact r1
            | _ => (simp [Mp.look] at ha; try (obtain ⟨_, _, z⟩ := ha; rw [← z] at ok; simp [D.scal] at ok))
          refine .inl (.inr ⟨p, vs, rfl, .inr h1.sq, scal_flatV ra ok.1, scals_flatV h2 ok.2, ?_⟩)
          rw [if_pos rfl]
          exact fin _ (by rw [scals_inV ra ok.1 h2 ok.2])
        · split at e
          · rename_i ok
            cases e
            simp only [D.ok, Bool.and_eq_true] at ok
            obtain ⟨⟨⟨o1, o2⟩, o3, o4⟩, o5⟩ := ok
            obtain ⟨p, vs, rfl, h1, h2⟩ := tup_met r2 ht
            refine .inr ⟨_, _, R.look r1 ha o1, .tup h1.sq (RDs.dp h2 (by simpa [D.flat] using o3)), o2, o4, fin _ ?_⟩
            rw [pys_any a ys]
            simp
          · cases e
      · cases e
    · cases e
  · exact h.elim
end Mp

namespace Mp
open PySem L2

/-! ## truth, tests -/
def truth (M : Mem) : AV → Option Bool
  | .d .non => some false
  | .d (.bl b) => some b
  | .d (.int i) => some (i != 0)
  | .d (.str x) => if x.length ≤ sizeLine then some ((x.length : Int) != 0) else none
  | .d (.tup xs) => some (!xs.isEmpty)
  | .d (.fn _) => none
  | a => (lstOf M a).map fun xs => !xs.isEmpty
def bool? : AV → Option Bool
  | .d (.bl b) => some b
  | _ => none
def sB (f : SE) : SB := fun env M => (f env M).bind fun x M1 => match truth M1 x with
  | some b => .ok b M1
  | none => .bad
def sAndB (f g : SB) : SB := fun env M => (f env M).bind fun b M1 => if b = true then g env M1 else .ok false M1
def sOrB (f g : SB) : SB := fun env M => (f env M).bind fun b M1 => if b = true then .ok true M1 else g env M1
def sNotB (f : SB) : SB := fun env M => (f env M).bind fun b M1 => .ok (!b) M1
def sIf (c : SB) (f g : SE) : SE := fun env M => (c env M).bind fun b M1 => if b = true then f env M1 else g env M1
/-- as values: the first one is a bool -/
def sAnd (f g : SE) : SE := fun env M => (f env M).bind fun x M1 => match bool? x with
  | some true => g env M1
  | some false => .ok (.d (.bl false)) M1
  | none => .bad
def sOr (f g : SE) : SE := fun env M => (f env M).bind fun x M1 => match bool? x with
  | some true => .ok (.d (.bl true)) M1
  | some false => g env M1
  | none => .bad
def sNot (f : SE) : SE := fun env M => (f env M).bind fun x M1 => match bool? x with
  | some b => .ok (.d (.bl (!b))) M1
  | none => .bad
/-- a op b op' c -/
def sChain (op op' : CmpOp) (f g k : SE) : SE := fun env M => (f env M).bind fun x M1 => (g env M1).bind fun y M2 => match cmpv op M2 x y with
  | some true => (k env M2).bind fun z M3 => cmpop op' y z M3
  | some false => .ok (.d (.bl false)) M2
  | none => .bad

section
variable {G : Gm} {W W1 Z B : Addr → Prop} {φ : List Addr} {H : Hp} {M : Mem} {Q : VK} {E : XK} {v u : V}
theorem truth_ok (R : Rel G W Z φ M H) {av : AV} {b : Bool} (r : SR G (Bar W Z) φ H av v) (h : truth M av = some b) : TruV G.K v H b := by
  have lst : ∀ xs, lstOf M av = some xs → b = !xs.isEmpty → TruV G.K v H b := fun xs e z => by
    obtain ⟨p, vs, rfl, h1, h2, _⟩ := R.lst r e
    subst z
    refine .inl ⟨vs, h1, ?_⟩
    cases h2 <;> rfl
  unfold truth at h
  split at h
  · cases h; cases r; rfl
  · cases h; cases r; rfl
  · cases h; cases r; rfl
  · split at h
    · cases h; cases r; exact ⟨by assumption, rfl⟩
    · cases h
  · cases h
    cases r with
    | tup h1 h2 =>
      refine .inr (.inl ⟨_, h1.sq, ?_⟩)
      cases h2 <;> rfl
  · cases h
  · obtain ⟨xs, e, z⟩ := Option.map_eq_some_iff.mp h
    exact lst xs e z.symm
theorem bool_ok {av : AV} {b : Bool} (r : SR G B φ H av v) (h : bool? av = some b) : v = .bl b := by
  unfold bool? at h
  split at h
  · cases h; cases r; rfl
  · cases h
theorem RunB.ok {b : Bool} {Q : Bool → Hp → Prop} (R : Rel G W Z φ M H) (h : RunB G Z φ W H (.ok b M) Q E) : Q b H := h W H b R (Ext.refl _ _) rfl
end

section
variable {X : Cx} {E : WX} {a b c e : Expr} {f g k : SE} {p q : SB} {pos : Pos} {rest : List Expr}
theorem gb_truth (ha : GE X E a f) (he : ∀ whole, isTrue a X.env whole = (do let v ← whole; standAt a.pos; holding [v] (truthy v))) : GB X E a (sB f) :=
  PT.imp (pt_truth ha he) fun σ H Q ⟨W, Z, φ, env, M, R, Er, h⟩ => ⟨W, Z, φ, env, M, R, Er, (RunB.bind h).imp fun v H1 ⟨W1, M1, x, _, R1, x1, r1, h2⟩ => by
    cases e : truth M1 x with
    | none => rw [e] at h2; exact h2.elim
    | some b => rw [e] at h2; exact ⟨b, truth_ok R1 r1.sr e, RunB.ok R1 h2⟩⟩
/-- a comparison's value as a test: by two operands -/
theorem ge_cmp {op : CmpOp} (hu : X.A.units + 65 < cLine) (hm : behindInMarks op b = false) (ha : GE X E a f) (hb : GE X E b g) : GE X E (.Compare a [op] [b] pos) (sCmp op f g) :=
  ge_two (fun ha hb => pe_cmpR (rCmp_ok hu op) ha hb hm) ha hb fun W Z φ M H x y v u Q E R r1 r2 h => cmp_run R r1 r2 h
theorem cmp_bool {op : CmpOp} {x y : AV} {M M' : Mem} {av : AV} (h : cmpop op x y M = .ok av M') : M' = M ∧ ∃ b, av = .d (.bl b) := by
  unfold cmpop at h
  split at h
  · cases h; exact ⟨rfl, _, rfl⟩
  · cases h
theorem gb_cmp {op : CmpOp} (hu : X.A.units + 65 < cLine) (hm : behindInMarks op b = false) (ha : GE X E a f) (hb : GE X E b g) : GB X E (.Compare a [op] [b] pos) (sB (sCmp op f g)) :=
  PT.imp (pt_cmpR (rCmp_ok hu op) ha hb hm) fun σ H Q ⟨W, Z, φ, env, M, R, Er, h⟩ => by
    have h' : RunB (gm X) Z φ W H ((f env M).bind fun x M1 => (g env M1).bind fun y M2 => (cmpop op x y M2).bind fun z M3 => match truth M3 z with | some b => .ok b M3 | none => .bad) Q (fun c d H' => E c d σ H') := by
      have e : (sB (sCmp op f g) env M) = ((f env M).bind fun x M1 => (g env M1).bind fun y M2 => (cmpop op x y M2).bind fun z M3 => match truth M3 z with | some b => .ok b M3 | none => .bad) := by
        unfold sB sCmp sTwo
        rw [Out.assoc]
        congr 1
        funext x M1
        rw [Out.assoc]
      rw [← e]; exact h
    exact ⟨W, Z, φ, env, M, R, Er, (RunB.bind h').imp fun v H1 ⟨W1, M1, x, _, R1, x1, r1, h2⟩ =>
      ⟨W1, Z, φ, env, M1, R1, Er.ext x1.bar, (RunB.bind h2).imp fun u H2 ⟨W2, M2, y, _, R2, x2, r2, h4⟩ => by
        refine cmp_run (E := fun _ _ _ => False) (W := W2) (Z := Z) (φ := φ) (M := M2) (x := x) (y := y) R2 (r1.sr.ext x2.bar) r2.sr ?_
        cases e : cmpop op x y M2 with
        | bad => rw [e] at h4; exact h4
        | exc _ _ => unfold cmpop at e; split at e <;> cases e
        | ok av M3 =>
          obtain ⟨rfl, t, rfl⟩ := cmp_bool e
          rw [e] at h4
          intro W' H' v' R' x' r'
          cases r'
          exact ⟨t, rfl, h4 W' H' t R' x' rfl⟩⟩⟩
theorem gb_and (ha : GB X E a p) (hb : GBw X E (.BoolOp .And (b :: rest) pos) q) : GBw X E (.BoolOp .And (a :: b :: rest) pos) (sAndB p q) :=
  PW.imp (pw_and ha hb) fun σ H Q ⟨W, Z, φ, env, M, R, Er, h⟩ => ⟨W, Z, φ, env, M, R, Er, (RunB.bind h).imp fun v H1 ⟨W1, M1, x, _, R1, x1, r1, h2⟩ => by
    subst r1
    cases x with
    | true => exact ⟨W1, Z, φ, env, M1, R1, Er.ext x1.bar, h2⟩
    | false => exact RunB.ok R1 h2⟩
theorem gb_or (ha : GB X E a p) (hb : GBw X E (.BoolOp .Or (b :: rest) pos) q) : GBw X E (.BoolOp .Or (a :: b :: rest) pos) (sOrB p q) :=
  PW.imp (pw_or ha hb) fun σ H Q ⟨W, Z, φ, env, M, R, Er, h⟩ => ⟨W, Z, φ, env, M, R, Er, (RunB.bind h).imp fun v H1 ⟨W1, M1, x, _, R1, x1, r1, h2⟩ => by
    subst r1
    cases x with
    | false => exact ⟨W1, Z, φ, env, M1, R1, Er.ext x1.bar, h2⟩
    | true => exact RunB.ok R1 h2⟩
theorem gb_and1 (ha : GB X E a p) : GBw X E (.BoolOp .And [a] pos) p := pw_and1 ha
theorem gb_or1 (ha : GB X E a p) : GBw X E (.BoolOp .Or [a] pos) p := pw_or1 ha
theorem gb_not (ha : GB X E a p) : GB X E (.UnaryOp .Not a pos) (sNotB p) :=
  PT.imp (pt_not ha) fun σ H Q ⟨W, Z, φ, env, M, R, Er, h⟩ => ⟨W, Z, φ, env, M, R, Er, (RunB.bind h).imp fun v H1 ⟨W1, M1, x, _, R1, x1, r1, h2⟩ => by
    subst r1; exact RunB.ok R1 h2⟩
theorem ge_and (ha : GE X E a f) (hb : GE X E (.BoolOp .And (b :: rest) pos) g) : GE X E (.BoolOp .And (a :: b :: rest) pos) (sAnd f g) :=
  PE.imp (pe_and ha hb) fun σ H Q ⟨W, Z, φ, env, M, R, Er, h⟩ => ⟨W, Z, φ, env, M, R, Er, (Run.bind h).imp fun v H1 ⟨W1, M1, x, _, R1, x1, r1, h2⟩ => by
    cases e : bool? x with
    | none => rw [e] at h2; exact h2.elim
    | some t =>
      refine ⟨t, bool_ok r1.sr e, ?_⟩
      rw [e] at h2
      cases t with
      | true => exact ⟨W1, Z, φ, env, M1, R1, Er.ext x1.bar, h2⟩
      | false => exact Run.ok R1 h2 (.bl _) (fun _ z => by cases z)⟩
theorem ge_or (ha : GE X E a f) (hb : GE X E (.BoolOp .Or (b :: rest) pos) g) : GE X E (.BoolOp .Or (a :: b :: rest) pos) (sOr f g) :=
  PE.imp (pe_or ha hb) fun σ H Q ⟨W, Z, φ, env, M, R, Er, h⟩ => ⟨W, Z, φ, env, M, R, Er, (Run.bind h).imp fun v H1 ⟨W1, M1, x, _, R1, x1, r1, h2⟩ => by
    cases e : bool? x with
    | none => rw [e] at h2; exact h2.elim
    | some t =>
      refine ⟨t, bool_ok r1.sr e, ?_⟩
      rw [e] at h2
      cases t with
      | false => exact ⟨W1, Z, φ, env, M1, R1, Er.ext x1.bar, h2⟩
      | true => exact Run.ok R1 h2 (.bl _) (fun _ z => by cases z)⟩
theorem ge_one1 {op : BoolOp} (ha : GE X E a f) : GE X E (.BoolOp op [a] pos) f := pe_one ha
theorem ge_not (ha : GE X E a f) : GE X E (.UnaryOp .Not a pos) (sNot f) :=
  PE.imp (pe_not ha) fun σ H Q ⟨W, Z, φ, env, M, R, Er, h⟩ => ⟨W, Z, φ, env, M, R, Er, (Run.bind h).imp fun v H1 ⟨W1, M1, x, _, R1, x1, r1, h2⟩ => by
    cases e : bool? x with
    | none => rw [e] at h2; exact h2.elim
    | some t =>
      refine ⟨t, bool_ok r1.sr e, ?_⟩
      rw [e] at h2
      exact Run.ok R1 h2 (.bl _) (fun _ z => by cases z)⟩
theorem ge_if (hc : GB X E c p) (ha : GE X E a f) (hb : GE X E b g) : GE X E (.IfExp c a b pos) (sIf p f g) :=
  PE.imp (pe_ifExp hc ha hb) fun σ H Q ⟨W, Z, φ, env, M, R, Er, h⟩ => ⟨W, Z, φ, env, M, R, Er, (Run.bind h).imp fun v H1 ⟨W1, M1, x, _, R1, x1, r1, h2⟩ => by
    subst r1
    cases x with
    | true => exact ⟨W1, Z, φ, env, M1, R1, Er.ext x1.bar, h2⟩
    | false => exact ⟨W1, Z, φ, env, M1, R1, Er.ext x1.bar, h2⟩⟩
end
end Mp

namespace Mp
open PySem L2

section
variable {X : Cx} {E : WX} {a b c e : Expr} {f g k : SE} {p q : SB} {pos : Pos} {rest : List Expr}
/-- the chain's reading, whatever comes behind it -/
theorem chain_run {G : Gm} {op op' : CmpOp} {W Z : Addr → Prop} {φ : List Addr} {H : Hp} {M : Mem} {env : Env} {σ : St} {Q : VK} {E : WX} (R : Rel G W Z φ M H) (Er : EnvR G (Bar W Z) φ H env σ)
    (h : Run G Z φ W H (sChain op op' f g k env M) Q (fun c d H' => E c d σ H')) : tChain (rCmp G.K op) (rCmp G.K op') (rdE G f E) (rdE G g E) (rdE G k E) σ H Q :=
  ⟨W, Z, φ, env, M, R, Er, (Run.bind h).imp fun v H1 ⟨W1, M1, x, _, R1, x1, r1, h2⟩ =>
    ⟨W1, Z, φ, env, M1, R1, Er.ext x1.bar, (Run.bind h2).imp fun u H2 ⟨W2, M2, y, _, R2, x2, r2, h4⟩ => by
      refine cmp_run (E := fun _ _ _ => False) (W := W2) (Z := Z) (φ := φ) (M := M2) (x := x) (y := y) R2 (r1.sr.ext x2.bar) r2.sr ?_
      unfold cmpop
      cases e : cmpv op M2 x y with
      | none => rw [e] at h4; exact h4
      | some t =>
        rw [e] at h4
        intro W' H' v' R' x' r'
        cases r'
        refine ⟨t, rfl, ?_⟩
        have Er' := (Er.ext x1.bar).ext (x2.trans x').bar
        have r2' := r2.sr.ext x'.bar
        cases t with
        | true =>
          rw [if_pos rfl]
          refine ⟨W', Z, φ, env, M2, R', Er', (Run.bind (Run.later x' h4)).imp fun w H3 ⟨W3, M3, z, _, R3, x3, r3, h5⟩ => ?_⟩
          exact cmp_run R3 (r2'.ext x3.bar) r3.sr h5
        | false =>
          rw [if_neg Bool.false_ne_true]
          exact Run.ok R' (Run.later x' h4) (.bl _) (fun _ z => by cases z)⟩⟩
theorem ge_chain {op op' : CmpOp} (hu : X.A.units + 65 < cLine) (hm : lastMarks [op, op'] [b, c] = false) (ha : GE X E a f) (hb : GE X E b g) (hc : GE X E c k) : GE X E (.Compare a [op, op'] [b, c] pos) (sChain op op' f g k) :=
  PE.imp (pe_chain (rCmp_ok hu op) (rCmp_ok hu op') ha hb hc hm) fun σ H Q ⟨W, Z, φ, env, M, R, Er, h⟩ => chain_run R Er h
theorem chain_bool {op op' : CmpOp} {env : Env} {M M' : Mem} {av : AV} (h : sChain op op' f g k env M = .ok av M') : ∃ b, av = .d (.bl b) := by
  unfold sChain at h
  cases e1 : f env M with
  | bad => rw [e1] at h; cases h
  | exc _ _ => rw [e1] at h; cases h
  | ok x M1 =>
    rw [e1] at h
    replace h : (g env M1).bind _ = _ := h
    cases e2 : g env M1 with
    | bad => rw [e2] at h; cases h
    | exc _ _ => rw [e2] at h; cases h
    | ok y M2 =>
      rw [e2, Out.bind_ok] at h
      cases e3 : cmpv op M2 x y with
      | none => rw [e3] at h; cases h
      | some t =>
        rw [e3] at h
        cases t with
        | false => cases h; exact ⟨_, rfl⟩
        | true =>
          replace h : (k env M2).bind _ = _ := h
          cases e4 : k env M2 with
          | bad => rw [e4] at h; cases h
          | exc _ _ => rw [e4] at h; cases h
          | ok z M3 => rw [e4, Out.bind_ok] at h; exact (cmp_bool h).2
theorem gb_chain {op op' : CmpOp} (hu : X.A.units + 65 < cLine) (hm : lastMarks [op, op'] [b, c] = false) (ha : GE X E a f) (hb : GE X E b g) (hc : GE X E c k) : GB X E (.Compare a [op, op'] [b, c] pos) (sB (sChain op op' f g k)) :=
  PT.imp (pt_chain (rCmp_ok hu op) (rCmp_ok hu op') ha hb hc hm) fun σ H Q ⟨W, Z, φ, env, M, R, Er, h⟩ => by
    refine chain_run R Er ?_
    unfold sB at h
    cases e : sChain op op' f g k env M with
    | bad => rw [e] at h; exact h
    | exc _ _ => rw [e] at h; exact h
    | ok av M' =>
      obtain ⟨t, rfl⟩ := chain_bool e
      rw [e] at h
      intro W' H' v R' x r
      cases r
      exact ⟨t, rfl, h W' H' t R' x rfl⟩
end

/-! ## argument lists -/
def sNil : SL := fun _ M => .ok [] M
def sCons (f : SE) (l : SL) : SL := fun env M => (f env M).bind fun x M1 => (l env M1).bind fun xs M2 => .ok (x.settle :: xs) M2
section
variable {G : Gm} {W W1 Z B : Addr → Prop} {φ : List Addr} {H : Hp} {M M' : Mem} {Q : VK} {E : XK} {v u : V}
theorem RunL.ok {avs : List AV} {vs : List V} {Q : List V → Hp → Prop} (R : Rel G W Z φ M H) (h : RunL G Z φ W H (.ok avs M) Q E) (r : SRs G (Bar W Z) φ H avs vs) : Q vs H := h W H vs R (Ext.refl _ _) r
theorem SRs.length : ∀ {xs : List AV} {vs : List V}, SRs G B φ H xs vs → xs.length = vs.length
  | [], [], _ => rfl
  | [], _ :: _, h => h.elim
  | _ :: _, [], h => h.elim
  | _ :: _, _ :: _, ⟨_, h2⟩ => by simp [SRs.length h2]
/-- a value that is kept: the cell it may be is closed -/
theorem keep_ok (R : Rel G W Z φ M H) {av : AV} {d : D} (r : SR G (Bar W Z) φ H av v) (h : keepD av M = some (d, M')) :
    ∃ W', Rel G W' Z φ M' H ∧ (∀ a, W' a → W a) ∧ RD G (Bar W' Z) H d v := by
  cases av with
  | d x => cases h; exact ⟨W, R, fun _ z => z, r⟩
  | fr xs => cases h; exact ⟨W, R, fun _ z => z, r⟩
  | scr ns => cases h
  | cell i =>
    obtain ⟨p, e, rfl⟩ := r
    unfold keepD at h
    simp only at h
    split at h
    · rename_i xs e2
      cases h
      obtain ⟨wp, vs, h1, h2⟩ := R.cell _ _ _ e e2
      refine ⟨fun a => W a ∧ a ≠ p, ⟨by rw [List.length_set]; exact R.len, R.nd, fun a z => R.wt a z.1, R.zt, R.sep, fun j q c e3 e4 => ?_⟩, fun _ z => z.1, ?_⟩
      · have hj : j ≠ i := fun z => by
          subst z
          rw [List.getElem?_set_self (by rw [← R.len]; exact (List.getElem?_eq_some_iff.mp e3).1)] at e4
          cases e4
        rw [List.getElem?_set_ne (Ne.symm hj)] at e4
        obtain ⟨w, r⟩ := R.cell j q c e3 e4
        have hq : q ≠ p := fun z => by
          subst z
          obtain ⟨l1, g1⟩ := List.getElem?_eq_some_iff.mp e3
          obtain ⟨l2, g2⟩ := List.getElem?_eq_some_iff.mp e
          exact hj ((List.getElem_inj R.nd).mp (g1.trans g2.symm))
        exact ⟨⟨w, hq⟩, r.ext (Ext.less fun a z => z.imp (fun z => z.1) id) rfl⟩
      · refine .lst ⟨h1, fun z => z.elim (fun z => z.2 rfl) fun z => ?_⟩ (h2.less fun a z => z.imp (fun z => z.1) id)
        exact (R.sep i p e).2 z
    · cases h
theorem keeps_ok : ∀ {avs : List AV} {vs : List V} {ds : List D} {W : Addr → Prop} {M M' : Mem}, Rel G W Z φ M H → SRs G (Bar W Z) φ H avs vs → keepDs avs M = some (ds, M') →
    ∃ W', Rel G W' Z φ M' H ∧ (∀ a, W' a → W a) ∧ RDs G (Bar W' Z) H ds vs
  | [], [], _, W, _, _, R, _, h => by cases h; exact ⟨W, R, fun _ z => z, .nil⟩
  | [], _ :: _, _, _, _, _, _, r, _ => r.elim
  | _ :: _, [], _, _, _, _, _, r, _ => r.elim
  | a :: r, v :: vs, ds, W, M, M', R, ⟨r1, r2⟩, h => by
    unfold keepDs at h
    split at h
    · cases h
    · rename_i x M1 e1
      obtain ⟨W1, R1, l1, d1⟩ := keep_ok R r1 e1
      split at h
      · cases h
      · rename_i xs M2 e2
        cases h
        obtain ⟨W2, R2, l2, d2⟩ := keeps_ok R1 (r2.ext (Ext.bar (Ext.less l1))) e2
        exact ⟨W2, R2, fun a z => l1 a (l2 a z), .cons (d1.ext (Ext.bar (Ext.less l2))) d2⟩
end
/-! ## displays, calls -/
def sTup (l : SL) : SE := fun env M => (l env M).bind fun avs M1 => match keepDs avs M1 with
  | some (xs, M2) => guard (decide (xs.length ≤ sizeLine)) (.ok (.d (.tup xs)) M2)
  | none => .bad
def sLst (l : SL) : SE := fun env M => (l env M).bind fun avs M1 => match keepDs avs M1 with
  | some (xs, M2) => guard (decide (xs.length ≤ sizeLine)) (.ok (.fr xs) M2)
  | none => .bad
def sArgs (op : List AV → Mem → Out AV) (l : SL) : SE := fun env M => (l env M).bind fun avs M1 => op avs M1
section
variable {G : Gm} {W W1 Z B : Addr → Prop} {φ : List Addr} {H : Hp} {M M' : Mem} {Q : VK} {E : XK} {v u : V}
theorem Run.less {r : Out AV} (h : Run G Z φ W H r Q E) (l : ∀ a, W1 a → W a) : Run G Z φ W1 H r Q E := Run.later (Ext.less l) h
end
section
variable {X : Cx} {E : WX} {a b c e : Expr} {es : List Expr} {f g k : SE} {l : SL} {p q : SB} {pos : Pos} {rest : List Expr}
theorem gl_nil : GL X E [] sNil := PA.imp pa_nil fun σ H Q ⟨W, Z, φ, env, M, R, Er, h⟩ => RunL.ok R h trivial
theorem gl_cons (hs : starEach (e :: es) X.env = (false, eval e X.env) :: starEach es X.env) (he : GE X E e f) (hl : GL X E es l) : GL X E (e :: es) (sCons f l) :=
  PA.imp (pa_cons he hl hs) fun σ H Q ⟨W, Z, φ, env, M, R, Er, h⟩ => ⟨W, Z, φ, env, M, R, Er, (RunL.bind h).imp fun v H1 ⟨W1, M1, x, _, R1, x1, r1, h2⟩ =>
    ⟨W1, Z, φ, env, M1, R1, Er.ext x1.bar, (RunL.bind h2).imp fun vs H2 ⟨W2, M2, xs, _, R2, x2, r2, h3⟩ => RunL.ok R2 h3 ⟨(r1.sr.settle).ext x2.bar, r2⟩⟩⟩
theorem ge_tup {k : Nat} (h : GL X E es l) : GE X E (.Tuple es k pos) (sTup l) :=
  PE.imp (pe_tup h) fun σ H Q ⟨W, Z, φ, env, M, R, Er, h⟩ => ⟨W, Z, φ, env, M, R, Er, (Run.bind h).imp fun vs H1 ⟨W1, M1, avs, _, R1, x1, r1, h2⟩ => by
    cases e : keepDs avs M1 with
    | none => rw [e] at h2; exact h2.elim
    | some t =>
      obtain ⟨xs, M2⟩ := t
      rw [e] at h2
      obtain ⟨g, h2⟩ := guard_run (P := fun r => Run (gm X) Z φ W1 H1 r Q _) h2 (fun z => z)
      obtain ⟨W2, R2, l2, d2⟩ := keeps_ok R1 r1 e
      exact ⟨by rw [← d2.length]; exact of_decide_eq_true g, Run.tup R2 (Run.less h2 l2) d2⟩⟩
theorem ge_lst (h : GL X E es l) : GE X E (.List es pos) (sLst l) :=
  PE.imp (pe_lst h) fun σ H Q ⟨W, Z, φ, env, M, R, Er, h⟩ => ⟨W, Z, φ, env, M, R, Er, (Run.bind h).imp fun vs H1 ⟨W1, M1, avs, _, R1, x1, r1, h2⟩ => by
    cases e : keepDs avs M1 with
    | none => rw [e] at h2; exact h2.elim
    | some t =>
      obtain ⟨xs, M2⟩ := t
      rw [e] at h2
      obtain ⟨g, h2⟩ := guard_run (P := fun r => Run (gm X) Z φ W1 H1 r Q _) h2 (fun z => z)
      obtain ⟨W2, R2, l2, d2⟩ := keeps_ok R1 r1 e
      exact ⟨by rw [← d2.length]; exact of_decide_eq_true g, Run.new R2 (Run.less h2 l2) d2⟩⟩
/-- what a call by values asks -/
def rCall (X : Cx) (op : List AV → Mem → Out AV) : List V → Hp → VK → Prop := fun vs H Q => ∃ W Z φ M avs, Rel (gm X) W Z φ M H ∧ SRs (gm X) (Bar W Z) φ H avs vs ∧ Run (gm X) Z φ W H (op avs M) Q fun _ _ _ => False
/-- a built-in that raises nothing -/
theorem ge_bi {op : List AV → Mem → Out AV} {r : List V → Hp → VK → Prop} (hp : ∀ {t : TA}, PA X es t → PE X e (tCB r t)) (hl : GL X E es l)
    (hr : ∀ W Z φ M H avs vs Q E, Rel (gm X) W Z φ M H → SRs (gm X) (Bar W Z) φ H avs vs → Run (gm X) Z φ W H (op avs M) Q E → r vs H Q) : GE X E e (sArgs op l) :=
  PE.imp (hp hl) fun σ H Q ⟨W, Z, φ, env, M, R, Er, h⟩ => ⟨W, Z, φ, env, M, R, Er, (Run.bind h).imp fun vs H1 ⟨W1, M1, avs, _, R1, x1, r1, h2⟩ => hr _ _ _ _ _ _ _ _ _ R1 r1 h2⟩
end

/-! ## subscripts, slices -/
def idx (x y : AV) (M : Mem) : Out AV := match y with
  | .d (.int i) => match lstOf M x, x with
    | some xs, _ => match atI xs i with
      | some d => .ok (.d d) M
      | none => .bad
    | none, .d (.tup xs) => match atI xs i with
      | some d => .ok (.d d) M
      | none => .bad
    | none, .d (.str z) => match decide (z.length ≤ sizeLine), atI z.cps.toList i with
      | true, some c => .ok (.d (.str ⟨#[c]⟩)) M
      | _, _ => .bad
    | _, _ => .bad
  | _ => .bad
def sIdx (f g : SE) : SE := sTwo idx f g
theorem RDs.atI {G : Gm} {B : Addr → Prop} {H : Hp} {xs : List D} {vs : List V} {i : Int} {d : D} (r : RDs G B H xs vs) (h : atI xs i = some d) : ∃ v, L2.atI vs i = some v ∧ RD G B H d v := by
  unfold L2.atI at h ⊢
  rw [← r.length]
  cases e : ixN xs.length i with
  | none => rw [e] at h; cases h
  | some j =>
    rw [e] at h
    obtain ⟨v, e1, r1⟩ := r.get (i := j) h
    exact ⟨v, e1, r1⟩
section
variable {X : Cx} {E : WX} {a b c e : Expr} {es : List Expr} {f g k : SE} {l : SL} {pos : Pos}
theorem ge_idx (hs : PlainIx b) (ha : GE X E a f) (hb : GE X E b g) : GE X E (.Subscript a b pos) (sIdx f g) :=
  ge_two (fun ha hb => pe_ix ix_seq ha hb hs) ha hb fun W Z φ M H x y v u Q E R r1 r2 h => by
    unfold idx at h
    split at h
    · rename_i i
      cases r2
      split at h
      · rename_i xs e
        obtain ⟨p, vs, rfl, h1, h2, _⟩ := R.lst r1 e
        split at h
        · rename_i d e1
          obtain ⟨w, e2, r3⟩ := h2.atI e1
          exact .inl ⟨p, vs, i, w, rfl, rfl, h1, e2, Run.ok R h r3 (fun _ z => by cases z)⟩
        · exact h.elim
      · split at h
        · rename_i d e1
          cases r1 with
          | tup h1 h2 =>
            obtain ⟨w, e2, r3⟩ := h2.atI e1
            exact .inr (.inl ⟨_, _, i, w, rfl, rfl, h1.sq, e2, Run.ok R h r3 (fun _ z => by cases z)⟩)
        · exact h.elim
      · split at h
        · rename_i c e1 e2
          cases r1
          exact .inr (.inr ⟨_, i, c, rfl, rfl, of_decide_eq_true e1, e2, Run.ok R h (.str _) (fun _ z => by cases z)⟩)
        · exact h.elim
      · exact h.elim
    · exact h.elim
/-- an end of a slice -/
def sPart (o : Option SE) (env : Env) (M : Mem) : Out (Option Int) := match o with
  | none => .ok none M
  | some f => (f env M).bind fun x M1 => match x with
    | .d (.int i) => .ok (some i) M1
    | _ => .bad
def cutG {α : Type} (xs : List α) (lo hi : Option Int) : List α := (xs.drop (HT.sIx xs.length 0 lo)).take (HT.sIx xs.length xs.length hi - HT.sIx xs.length 0 lo)
def cutop (x : AV) (lo hi : Option Int) (M : Mem) : Out AV := match lstOf M x, x with
  | some xs, _ => .ok (.fr (cutG xs lo hi)) M
  | none, .d (.tup xs) => .ok (.d (.tup (cutG xs lo hi))) M
  | none, .d (.str z) => guard (decide (z.length ≤ sizeLine)) (.ok (.d (.str (cutS z lo hi))) M)
  | _, _ => .bad
def sSlice (f : SE) (lo hi : Option SE) : SE := fun env M => (f env M).bind fun x M1 => (sPart lo env M1).bind fun i M2 => (sPart hi env M2).bind fun j M3 => cutop x i j M3
theorem po_part {o : Option Expr} {t : TO} {fo : Option SE} (hN : o = none → fo = none ∧ t = tNoPart) (hS : ∀ e, o = some e → ∃ f, fo = some f ∧ t = tPart (rdE (gm X) f E))
    {W Z : Addr → Prop} {φ : List Addr} {H : Hp} {M : Mem} {env : Env} {σ : St} {Q : VK} {kk : Option Int → Mem → Out AV} (R : Rel (gm X) W Z φ M H) (Er : EnvR (gm X) (Bar W Z) φ H env σ)
    (h : Run (gm X) Z φ W H ((sPart fo env M).bind kk) Q (fun c d H' => E c d σ H')) {P : Option Int → Hp → Prop}
    (hP : ∀ i W1 M1 H1, Rel (gm X) W1 Z φ M1 H1 → Ext W H W1 H1 → Run (gm X) Z φ W1 H1 (kk i M1) Q (fun c d H' => E c d σ H') → P i H1) : t σ H P := by
  cases o with
  | none =>
    obtain ⟨rfl, rfl⟩ := hN rfl
    exact hP none W M H R (Ext.refl _ _) h
  | some e =>
    obtain ⟨f, rfl, rfl⟩ := hS e rfl
    have h' : Run (gm X) Z φ W H ((f env M).bind fun x M1 => (match x with | .d (.int i) => Out.ok (some i) M1 | _ => .bad).bind kk) Q (fun c d H' => E c d σ H') := by
      rw [← Out.assoc]; exact h
    refine ⟨W, Z, φ, env, M, R, Er, (Run.bind h').imp fun v H1 ⟨W1, M1, x, _, R1, x1, r1, h2⟩ => ?_⟩
    cases x with
    | d y =>
      cases y with
      | int i => cases r1; exact ⟨i, rfl, hP _ _ _ _ R1 x1 h2⟩
      | _ => exact h2.elim
    | _ => exact h2.elim
theorem cut_run {W Z : Addr → Prop} {φ : List Addr} {H : Hp} {M : Mem} {Q : VK} {E : XK} {x : AV} {v : V} {lo hi : Option Int} {G : Gm} (R : Rel G W Z φ M H) (r : SR G (Bar W Z) φ H x v) (h : Run G Z φ W H (cutop x lo hi M) Q E) :
    (rSlL G.K v lo hi H Q ∨ rSlA G.K v lo hi H Q) ∨ rSlS v lo hi H Q := by
  unfold cutop at h
  split at h
  · rename_i xs e
    obtain ⟨p, vs, rfl, h1, h2, _⟩ := R.lst r e
    refine .inl (.inl ⟨p, vs, rfl, h1, Run.new R h ?_⟩)
    have l := h2.length
    unfold cutG
    rw [l]
    exact (h2.drop _).take _
  · rename_i xs _
    cases r with
    | tup h1 h2 =>
      rename_i p vs
      have l := h2.length
      refine .inl (.inr ⟨p, vs, rfl, h1.sq, fun z => ?_, fun _ => Run.tup R h ?_⟩)
      · have e : cutG xs lo hi = xs := by
          unfold cutG
          rw [l, z.1, z.2, ← l, List.drop_zero, Nat.sub_zero, List.take_length]
        rw [e] at h
        exact Run.ok R h (.tup h1 h2) (fun _ z => by cases z)
      · unfold cutG
        rw [l]
        exact (h2.drop _).take _
  · obtain ⟨g, h⟩ := guard_run (P := fun r => Run G Z φ W H r Q E) h (fun z => z)
    cases r
    exact .inr ⟨_, rfl, of_decide_eq_true g, Run.ok R h (.str _) (fun _ z => by cases z)⟩
  · exact h.elim
theorem ge_slice {lo hi : Option Expr} {tl th : TO} {fl fh : Option SE} {p2 : Pos} (ha : GE X E a f) (hl : PO X lo tl) (hh : PO X hi th)
    (hN : lo = none → fl = none ∧ tl = tNoPart) (hS : ∀ e, lo = some e → ∃ f, fl = some f ∧ tl = tPart (rdE (gm X) f E))
    (hN' : hi = none → fh = none ∧ th = tNoPart) (hS' : ∀ e, hi = some e → ∃ f, fh = some f ∧ th = tPart (rdE (gm X) f E)) : GE X E (.Subscript a (.Slice lo hi none p2) pos) (sSlice f fl fh) :=
  PE.imp (pe_slice ((sl_list (X := X)).or sl_tupA |>.or sl_str) ha hl hh) fun σ H Q ⟨W, Z, φ, env, M, R, Er, h⟩ => ⟨W, Z, φ, env, M, R, Er, (Run.bind h).imp fun v H1 ⟨W1, M1, x, _, R1, x1, r1, h2⟩ =>
    po_part hN hS R1 (Er.ext x1.bar) h2 fun i W2 M2 H2 R2 x2 h3 => po_part hN' hS' R2 ((Er.ext x1.bar).ext x2.bar) h3 fun j W3 M3 H3 R3 x3 h4 => cut_run R3 ((r1.sr.ext x2.bar).ext x3.bar) h4⟩
end
end Mp

namespace Mp
open PySem L2

/-! ## built-in functions -/
def ints? : List D → Option (List Int)
  | [] => some []
  | .int i :: r => (ints? r).map (i :: ·)
  | _ :: _ => none
def bools? : List D → Option (List Bool)
  | [] => some []
  | .bl b :: r => (bools? r).map (b :: ·)
  | _ :: _ => none
theorem ints_ok : ∀ {ds : List D} {ns : List Int}, ints? ds = some ns → ds = ns.map D.int
  | [], _, h => by cases h; rfl
  | d :: r, ns, h => by
    cases d <;> simp only [ints?, Option.map_eq_some_iff] at h <;> try (cases h; done)
    obtain ⟨ms, e, rfl⟩ := h
    rw [ints_ok e]; rfl
theorem bools_ok : ∀ {ds : List D} {ns : List Bool}, bools? ds = some ns → ds = ns.map D.bl
  | [], _, h => by cases h; rfl
  | d :: r, ns, h => by
    cases d <;> simp only [bools?, Option.map_eq_some_iff] at h <;> try (cases h; done)
    obtain ⟨ms, e, rfl⟩ := h
    rw [bools_ok e]; rfl
theorem ints_map : ∀ ns : List Int, ints? (ns.map D.int) = some ns
  | [] => rfl
  | n :: r => by simp only [List.map_cons, ints?, ints_map r, Option.map_some]
theorem bools_map : ∀ ns : List Bool, bools? (ns.map D.bl) = some ns
  | [] => rfl
  | n :: r => by simp only [List.map_cons, bools?, bools_map r, Option.map_some]
def maxL : Int → List Int → Int
  | m, [] => m
  | m, x :: r => maxL (max m x) r
def minL : Int → List Int → Int
  | m, [] => m
  | m, x :: r => minL (min m x) r
theorem maxL_ge : ∀ (r : List Int) (m : Int), m ≤ maxL m r ∧ ∀ y ∈ r, y ≤ maxL m r
  | [], m => ⟨Int.le_refl _, fun _ h => by cases h⟩
  | x :: r, m => by
    obtain ⟨h1, h2⟩ := maxL_ge r (max m x)
    refine ⟨by show m ≤ maxL (max m x) r; omega, fun y hy => ?_⟩
    show y ≤ maxL (max m x) r
    rcases List.mem_cons.mp hy with rfl | hy
    · omega
    · exact h2 y hy
theorem maxL_mem : ∀ (r : List Int) (m : Int), maxL m r ∈ m :: r
  | [], m => by simp [maxL]
  | x :: r, m => by
    have h := maxL_mem r (max m x)
    show maxL (max m x) r ∈ _
    rcases List.mem_cons.mp h with h | h
    · rw [h]
      by_cases q : m ≤ x
      · rw [Int.max_eq_right q]; simp
      · rw [Int.max_eq_left (by omega)]; simp
    · exact .tail _ (.tail _ h)
theorem minL_le : ∀ (r : List Int) (m : Int), minL m r ≤ m ∧ ∀ y ∈ r, minL m r ≤ y
  | [], m => ⟨Int.le_refl _, fun _ h => by cases h⟩
  | x :: r, m => by
    obtain ⟨h1, h2⟩ := minL_le r (min m x)
    refine ⟨by show minL (min m x) r ≤ m; omega, fun y hy => ?_⟩
    show minL (min m x) r ≤ y
    rcases List.mem_cons.mp hy with rfl | hy
    · omega
    · exact h2 y hy
theorem minL_mem : ∀ (r : List Int) (m : Int), minL m r ∈ m :: r
  | [], m => by simp [minL]
  | x :: r, m => by
    have h := minL_mem r (min m x)
    show minL (min m x) r ∈ _
    rcases List.mem_cons.mp h with h | h
    · rw [h]
      by_cases q : m ≤ x
      · rw [Int.min_eq_left q]; simp
      · rw [Int.min_eq_right (by omega)]; simp
    · exact .tail _ (.tail _ h)
def sortI (ns : List Int) : List Int := ns.mergeSort (fun a b => decide (a ≤ b))
theorem sortI_perm (ns : List Int) : (sortI ns).Perm ns := List.mergeSort_perm _ _
theorem sortI_sorted (ns : List Int) : (sortI ns).Pairwise (· ≤ ·) := by
  have h := List.pairwise_mergeSort (le := fun a b : Int => decide (a ≤ b)) (fun a b c h1 h2 => by simp at *; omega) (fun a b => by simp; omega) ns
  exact h.imp fun h => by simpa using h
theorem sorted_unique : ∀ {xs ys : List Int}, xs.Perm ys → xs.Pairwise (· ≤ ·) → ys.Pairwise (· ≤ ·) → xs = ys := fun {xs ys} p h1 h2 =>
  List.Perm.eq_of_pairwise (fun a b _ _ h h' => Int.le_antisymm h h') h1 h2 p

def lenOp : List AV → Mem → Out AV
  | [a], M => match lstOf M a, a with
    | some xs, _ => .ok (.d (.int xs.length)) M
    | none, .d (.tup xs) => .ok (.d (.int xs.length)) M
    | none, .d (.str z) => guard (decide (z.length ≤ sizeLine)) (.ok (.d (.int z.length)) M)
    | _, _ => .bad
  | _, _ => .bad
def boolsOp (f : List Bool → Bool) : List AV → Mem → Out AV
  | [a], M => match (lstOf M a).bind bools? with
    | some bs => .ok (.d (.bl (f bs))) M
    | none => .bad
  | _, _ => .bad
def allOp := boolsOp fun bs => bs.all id
def anyOp := boolsOp fun bs => bs.any id
def sumOp : List AV → Mem → Out AV
  | [a], M => match (lstOf M a).bind ints? with
    | some ns => .ok (.d (.int ns.sum)) M
    | none => .bad
  | _, _ => .bad
def maxOp : List AV → Mem → Out AV
  | [a], M => match (lstOf M a).bind ints? with
    | some (m :: ns) => .ok (.d (.int (maxL m ns))) M
    | _ => .bad
  | [.d (.int i), .d (.int j)], M => .ok (.d (.int (max i j))) M
  | _, _ => .bad
def minOp : List AV → Mem → Out AV
  | [a], M => match (lstOf M a).bind ints? with
    | some (m :: ns) => .ok (.d (.int (minL m ns))) M
    | _ => .bad
  | [.d (.int i), .d (.int j)], M => .ok (.d (.int (min i j))) M
  | _, _ => .bad
def absOp : List AV → Mem → Out AV
  | [.d (.int i)], M => .ok (.d (.int i.natAbs)) M
  | _, _ => .bad
def intOp : List AV → Mem → Out AV
  | [.d (.int i)], M => .ok (.d (.int i)) M
  | [.d (.bl b)], M => .ok (.d (.int (if b = true then 1 else 0))) M
  | _, _ => .bad
def tupleOp : List AV → Mem → Out AV
  | [a], M => match lstOf M a, a with
    | some xs, _ => .ok (.d (.tup xs)) M
    | none, .d (.tup xs) => .ok (.d (.tup xs)) M
    | _, _ => .bad
  | _, _ => .bad
def listOp : List AV → Mem → Out AV
  | [a], M => match lstOf M a, a with
    | some xs, _ => .ok (.fr xs) M
    | none, .d (.tup xs) => .ok (.fr xs) M
    | _, _ => .bad
  | _, _ => .bad
def sortedOp : List AV → Mem → Out AV
  | [a], M => match (lstOf M a).bind ints? with
    | some ns => .ok (.fr ((sortI ns).map D.int)) M
    | none => .bad
  | _, _ => .bad
def strOp : List AV → Mem → Out AV
  | [.d (.int i)], M => guard (decide (i.natAbs.log2 < 1920)) (.ok (.d (.str (toString i))) M)
  | [.d (.str x)], M => .ok (.d (.str x)) M
  | _, _ => .bad

section
variable {G : Gm} {W Z B : Addr → Prop} {φ : List Addr} {H : Hp} {M : Mem} {Q : VK} {E : XK} {v u : V} {avs : List AV} {vs : List V}
theorem SRs.one {a : AV} (r : SRs G B φ H [a] vs) : ∃ v, vs = [v] ∧ SR G B φ H a v := by
  match vs, r with
  | [v], ⟨h, _⟩ => exact ⟨v, rfl, h⟩
theorem SRs.two {a b : AV} (r : SRs G B φ H [a, b] vs) : ∃ v u, vs = [v, u] ∧ SR G B φ H a v ∧ SR G B φ H b u := by
  match vs, r with
  | [v, u], ⟨h, h2, _⟩ => exact ⟨v, u, rfl, h, h2⟩
theorem Rel.ints (R : Rel G W Z φ M H) {av : AV} {ns : List Int} (r : SR G (Bar W Z) φ H av v) (h : (lstOf M av).bind ints? = some ns) : ∃ p, v = .ref p ∧ SqL G.K H p (ns.map V.int) := by
  obtain ⟨xs, e, h⟩ := Option.bind_eq_some_iff.mp h
  obtain ⟨p, vs, rfl, h1, h2, _⟩ := R.lst r e
  rw [ints_ok h] at h2
  rw [h2.ints] at h1
  exact ⟨p, rfl, h1⟩
theorem Rel.bools (R : Rel G W Z φ M H) {av : AV} {ns : List Bool} (r : SR G (Bar W Z) φ H av v) (h : (lstOf M av).bind bools? = some ns) : ∃ p, v = .ref p ∧ SqL G.K H p (ns.map V.bl) := by
  obtain ⟨xs, e, h⟩ := Option.bind_eq_some_iff.mp h
  obtain ⟨p, vs, rfl, h1, h2, _⟩ := R.lst r e
  rw [bools_ok h] at h2
  rw [h2.bls] at h1
  exact ⟨p, rfl, h1⟩
abbrev NotFr (a : AV) : Prop := ∀ xs, a ≠ .fr xs
theorem len_run (R : Rel G W Z φ M H) (r : SRs G (Bar W Z) φ H avs vs) (h : Run G Z φ W H (lenOp avs M) Q E) :
    (∃ p ys, vs = [.ref p] ∧ (SqL G.K H p ys ∨ SqT G.K H p ys) ∧ Q (.int ys.length) H) ∨ (∃ z, vs = [.str z] ∧ z.length ≤ sizeLine ∧ Q (.int z.length) H) := by
  unfold lenOp at h
  split at h
  · obtain ⟨v, rfl, r1⟩ := r.one
    split at h
    · rename_i xs e
      obtain ⟨p, ys, rfl, h1, h2, _⟩ := R.lst r1 e
      refine .inl ⟨p, ys, rfl, .inl h1, ?_⟩
      rw [← h2.length]
      exact Run.ok R h (.int _) (fun _ z => by cases z)
    · cases r1 with
      | tup h1 h2 =>
        refine .inl ⟨_, _, rfl, .inr h1.sq, ?_⟩
        rw [← h2.length]
        exact Run.ok R h (.int _) (fun _ z => by cases z)
    · obtain ⟨g, h⟩ := guard_run (P := fun r => Run G Z φ W H r Q E) h (fun z => z)
      cases r1
      exact .inr ⟨_, rfl, of_decide_eq_true g, Run.ok R h (.int _) (fun _ z => by cases z)⟩
    · exact h.elim
  · exact h.elim
theorem all_run (R : Rel G W Z φ M H) (r : SRs G (Bar W Z) φ H avs vs) (h : Run G Z φ W H (allOp avs M) Q E) : rAll G.K vs H Q := by
  unfold allOp boolsOp at h
  split at h
  · obtain ⟨v, rfl, r1⟩ := r.one
    split at h
    · rename_i bs e
      obtain ⟨p, rfl, h1⟩ := R.bools r1 e
      exact ⟨p, bs, rfl, h1, Run.ok R h (.bl _) (fun _ z => by cases z)⟩
    · exact h.elim
  · exact h.elim
theorem any_run (R : Rel G W Z φ M H) (r : SRs G (Bar W Z) φ H avs vs) (h : Run G Z φ W H (anyOp avs M) Q E) : rAny G.K vs H Q := by
  unfold anyOp boolsOp at h
  split at h
  · obtain ⟨v, rfl, r1⟩ := r.one
    split at h
    · rename_i bs e
      obtain ⟨p, rfl, h1⟩ := R.bools r1 e
      exact ⟨p, bs, rfl, h1, Run.ok R h (.bl _) (fun _ z => by cases z)⟩
    · exact h.elim
  · exact h.elim
theorem sum_run (R : Rel G W Z φ M H) (r : SRs G (Bar W Z) φ H avs vs) (h : Run G Z φ W H (sumOp avs M) Q E) : rSum G.K vs H Q := by
  unfold sumOp at h
  split at h
  · obtain ⟨v, rfl, r1⟩ := r.one
    split at h
    · rename_i bs e
      obtain ⟨p, rfl, h1⟩ := R.ints r1 e
      exact ⟨p, bs, rfl, h1, Run.ok R h (.int _) (fun _ z => by cases z)⟩
    · exact h.elim
  · exact h.elim
theorem max_run (R : Rel G W Z φ M H) (r : SRs G (Bar W Z) φ H avs vs) (h : Run G Z φ W H (maxOp avs M) Q E) : rMax G.K vs H Q ∨ ∃ i j, vs = [.int i, .int j] ∧ Q (.int (if j > i then j else i)) H := by
  unfold maxOp at h
  split at h
  · obtain ⟨v, rfl, r1⟩ := r.one
    split at h
    · rename_i m ns e
      obtain ⟨p, rfl, h1⟩ := R.ints r1 e
      refine .inl ⟨p, _, rfl, h1, by simp, fun k hk hle => ?_⟩
      have e : k = maxL m ns := by
        have h1 := maxL_ge ns m
        have h2 := hle _ (maxL_mem ns m)
        rcases List.mem_cons.mp hk with rfl | hk
        · omega
        · have := h1.2 k hk; omega
      subst e
      exact Run.ok R h (.int _) (fun _ z => by cases z)
    · exact h.elim
  · obtain ⟨v, u, rfl, r1, r2⟩ := r.two
    cases r1; cases r2
    refine .inr ⟨_, _, rfl, ?_⟩
    have e : ∀ i j : Int, (if j > i then j else i) = max i j := fun i j => by split <;> omega
    rw [e]
    exact Run.ok R h (.int _) (fun _ z => by cases z)
  · exact h.elim
theorem min_run (R : Rel G W Z φ M H) (r : SRs G (Bar W Z) φ H avs vs) (h : Run G Z φ W H (minOp avs M) Q E) : rMin G.K vs H Q ∨ ∃ i j, vs = [.int i, .int j] ∧ Q (.int (if j < i then j else i)) H := by
  unfold minOp at h
  split at h
  · obtain ⟨v, rfl, r1⟩ := r.one
    split at h
    · rename_i m ns e
      obtain ⟨p, rfl, h1⟩ := R.ints r1 e
      refine .inl ⟨p, _, rfl, h1, by simp, fun k hk hle => ?_⟩
      have e : k = minL m ns := by
        have h1 := minL_le ns m
        have h2 := hle _ (minL_mem ns m)
        rcases List.mem_cons.mp hk with rfl | hk
        · omega
        · have := h1.2 k hk; omega
      subst e
      exact Run.ok R h (.int _) (fun _ z => by cases z)
    · exact h.elim
  · obtain ⟨v, u, rfl, r1, r2⟩ := r.two
    cases r1; cases r2
    refine .inr ⟨_, _, rfl, ?_⟩
    have e : ∀ i j : Int, (if j < i then j else i) = min i j := fun i j => by split <;> omega
    rw [e]
    exact Run.ok R h (.int _) (fun _ z => by cases z)
  · exact h.elim
theorem abs_run (R : Rel G W Z φ M H) (r : SRs G (Bar W Z) φ H avs vs) (h : Run G Z φ W H (absOp avs M) Q E) : ∃ i, vs = [.int i] ∧ Q (.int (if i < 0 then -i else i)) H := by
  unfold absOp at h
  split at h
  · obtain ⟨v, rfl, r1⟩ := r.one
    cases r1
    refine ⟨_, rfl, ?_⟩
    have e : ∀ i : Int, (if i < 0 then -i else i) = i.natAbs := fun i => by split <;> omega
    rw [e]
    exact Run.ok R h (.int _) (fun _ z => by cases z)
  · exact h.elim
theorem int_run (R : Rel G W Z φ M H) (r : SRs G (Bar W Z) φ H avs vs) (h : Run G Z φ W H (intOp avs M) Q E) : (∃ i, vs = [.int i] ∧ Q (.int i) H) ∨ ∃ k, vs = [.bl k] ∧ Q (.int (if k then 1 else 0)) H := by
  unfold intOp at h
  split at h
  · obtain ⟨v, rfl, r1⟩ := r.one
    cases r1
    exact .inl ⟨_, rfl, Run.ok R h (.int _) (fun _ z => by cases z)⟩
  · obtain ⟨v, rfl, r1⟩ := r.one
    cases r1
    exact .inr ⟨_, rfl, Run.ok R h (.int _) (fun _ z => by cases z)⟩
  · exact h.elim
theorem tuple_run (R : Rel G W Z φ M H) (r : SRs G (Bar W Z) φ H avs vs) (h : Run G Z φ W H (tupleOp avs M) Q E) :
    ∃ p ys, vs = [.ref p] ∧ ((SqL G.K H p ys ∧ ∀ l, H l = none → Q (.ref l) (upd H l (.tup ys))) ∨ (SqT G.K H p ys ∧ Q (.ref p) H)) := by
  unfold tupleOp at h
  split at h
  · obtain ⟨v, rfl, r1⟩ := r.one
    split at h
    · rename_i xs e
      obtain ⟨p, ys, rfl, h1, h2, _⟩ := R.lst r1 e
      exact ⟨p, ys, rfl, .inl ⟨h1, Run.tup R h h2⟩⟩
    · cases r1 with
      | tup h1 h2 => exact ⟨_, _, rfl, .inr ⟨h1.sq, Run.ok R h (.tup h1 h2) (fun _ z => by cases z)⟩⟩
    · exact h.elim
  · exact h.elim
theorem list_run (R : Rel G W Z φ M H) (r : SRs G (Bar W Z) φ H avs vs) (h : Run G Z φ W H (listOp avs M) Q E) :
    ∃ p ys, vs = [.ref p] ∧ (SqL G.K H p ys ∨ SqT G.K H p ys) ∧ ∀ l, H l = none → Q (.ref l) (upd H l (.lst ys)) := by
  unfold listOp at h
  split at h
  · obtain ⟨v, rfl, r1⟩ := r.one
    split at h
    · rename_i xs e
      obtain ⟨p, ys, rfl, h1, h2, _⟩ := R.lst r1 e
      exact ⟨p, ys, rfl, .inl h1, Run.new R h h2⟩
    · cases r1 with
      | tup h1 h2 => exact ⟨_, _, rfl, .inr h1.sq, Run.new R h h2⟩
    · exact h.elim
  · exact h.elim
theorem sorted_run (R : Rel G W Z φ M H) (r : SRs G (Bar W Z) φ H avs vs) (h : Run G Z φ W H (sortedOp avs M) Q E) : rSortedI G.K vs H Q := by
  unfold sortedOp at h
  split at h
  · obtain ⟨v, rfl, r1⟩ := r.one
    split at h
    · rename_i ns e
      obtain ⟨p, rfl, h1⟩ := R.ints r1 e
      refine ⟨p, ns, rfl, h1, fun ms l hp hs hl => ?_⟩
      have e : ms = sortI ns := sorted_unique (hp.trans (sortI_perm ns).symm) hs (sortI_sorted ns)
      subst e
      exact Run.new R h (RDs.of_ints _) l hl
    · exact h.elim
  · exact h.elim
theorem str_run (R : Rel G W Z φ M H) (r : SRs G (Bar W Z) φ H avs vs) (h : Run G Z φ W H (strOp avs M) Q E) : (∃ i, vs = [.int i] ∧ i.natAbs.log2 < 1920 ∧ Q (.str (toString i)) H) ∨ ∃ a, vs = [.str a] ∧ Q (.str a) H := by
  unfold strOp at h
  split at h
  · obtain ⟨v, rfl, r1⟩ := r.one
    obtain ⟨g, h⟩ := guard_run (P := fun r => Run G Z φ W H r Q E) h (fun z => z)
    cases r1
    exact .inl ⟨_, rfl, of_decide_eq_true g, Run.ok R h (.str _) (fun _ z => by cases z)⟩
  · obtain ⟨v, rfl, r1⟩ := r.one
    cases r1
    exact .inr ⟨_, rfl, Run.ok R h (.str _) (fun _ z => by cases z)⟩
  · exact h.elim
end
end Mp

namespace Mp
open PySem L2

/-! ## isinstance -/
def tyName (M : Mem) : AV → Option String
  | .d .non => some "NoneType"
  | .d (.bl _) => some "bool"
  | .d (.int _) => some "int"
  | .d (.str _) => some "str"
  | .d (.tup _) => some "tuple"
  | .d (.fn _) => none
  | a => match lstOf M a with | some _ => some "list" | none => none
def isi1 (t u : String) : Bool := t == u || (t == "bool" && u == "int")
def tyNames : List String := ["NoneType", "bool", "int", "str", "tuple", "list"]
def clsNames : List String := ["int", "bool", "tuple", "list", "str"]
theorem isi_tab : ∀ t ∈ tyNames, ∀ u ∈ clsNames, kitB t u = some (isi1 t u) := by decide +kernel
def isiOp (us : List String) (x : AV) (M : Mem) : Out AV := match tyName M x with
  | some t => .ok (.d (.bl (us.any (isi1 t)))) M
  | none => .bad
def sIsi (us : List String) (f : SE) : SE := sOne (isiOp us) f
theorem tyName_mem {M : Mem} {a : AV} {t : String} (h : tyName M a = some t) : t ∈ tyNames := by
  unfold tyName at h
  split at h <;> first | (cases h; decide) | (split at h <;> first | (cases h; decide) | cases h) | cases h
section
variable {G : Gm} {W Z B : Addr → Prop} {φ : List Addr} {H : Hp} {M : Mem} {v : V}
theorem tyName_ok (R : Rel G W Z φ M H) {a : AV} {t : String} (r : SR G (Bar W Z) φ H a v) (h : tyName M a = some t) : TyX G.K H v (.type t) := by
  unfold tyName at h
  split at h
  · cases h; cases r; exact .base .non
  · cases h; cases r; exact .base (.bl _)
  · cases h; cases r; exact .base (.int _)
  · cases h; cases r; exact .base (.str _)
  · cases h
    cases r with
    | tup h1 h2 =>
      exact .base (.tup h1.1)
  · cases h
  · split at h
    · rename_i xs e
      cases h
      obtain ⟨p, vs, rfl, h1, h2, _⟩ := R.lst r e
      rcases h1 with (h1 | ⟨o, h1⟩) | ⟨o, its, n, h1, h3, _⟩
      · exact .base (.lst h1)
      · exact .base (.frz h1)
      · exact .kList h1 h3
    · cases h
end
theorem kitAny_ty {K : PySem.W.Frag} {t : String} (ht : t ∈ tyNames) : ∀ us : List String, (∀ u ∈ us, u ∈ clsNames) → PySem.W.kitAny K (.type t) (us.map Value.type) = some (us.any (isi1 t))
  | [], _ => rfl
  | u :: us, h => by
    have h1 := isi_tab t ht u (h u (.head _))
    have ih := kitAny_ty (K := K) ht us fun u hu => h u (.tail _ hu)
    refine kitAny_cons (kit_ty h1) (fun e => ?_) fun e => ?_
    · rw [ih, List.any_cons, e, Bool.false_or]
    · rw [List.any_cons, e, Bool.true_or]
theorem paired_ty : ∀ us : List String, Paired ClsV (us.map V.ty) (us.map Value.type)
  | [] => .nil
  | u :: us => .cons (.ty u) (paired_ty us)
/-- the names of classes, as arguments -/
def tTys (us : List String) : TA := fun _ H Q => Q (us.map V.ty) H
section
variable {X : Cx} {E : WX} {a e t : Expr} {es : List Expr} {f : SE} {pos p q : Pos} {k : Nat}
theorem ge_isi1 {u : String} (hg : Gl X "isinstance") (hm : X.mg "isinstance" = none) (hu : u ∈ clsNames) (ht : PE X t (tC (.ty u))) (ha : GE X E a f)
    (h1 : starEach [a, t] X.env = (false, eval a X.env) :: starEach [t] X.env) (h2 : starEach [t] X.env = (false, eval t X.env) :: starEach [] X.env) (h3 : (backTo pos (starEach [t] X.env)).any (·.1) = false) :
    GE X E (.Call (.Name "isinstance" p) [a, t] [] pos) (sIsi [u] f) :=
  PE.imp (pe_callB call_isi hg hm PyProof.Rows.boot_isinstance (pa_cons ha (pa_cons ht pa_nil h2) h1) (he := h1) (hpl := h3)) fun σ H Q ⟨W, Z, φ, env, M, R, Er, h⟩ => ⟨W, Z, φ, env, M, R, Er, (Run.bind h).imp fun v H1 ⟨W1, M1, x, _, R1, x1, r1, h2⟩ => by
    unfold isiOp at h2
    cases e : tyName M1 x with
    | none => rw [e] at h2; exact h2.elim
    | some t =>
      rw [e] at h2
      have c := isi_tab t (tyName_mem e) u hu
      refine ⟨v, .ty u, .type t, .type u, isi1 t u, rfl, .ty u, tyName_ok R1 r1.sr e, kit_ty c, ?_⟩
      have z : [u].any (isi1 t) = isi1 t u := by simp
      dsimp only at h2
      rw [z] at h2
      exact Run.ok R1 h2 (.bl _) (fun _ z => by cases z)⟩
theorem ge_isiT {us : List String} (hg : Gl X "isinstance") (hm : X.mg "isinstance" = none) (hu : ∀ u ∈ us, u ∈ clsNames) (hl : us.length ≤ sizeLine) (ht : PA X es (tTys us)) (ha : GE X E a f)
    (h1 : starEach [a, .Tuple es k q] X.env = (false, eval a X.env) :: starEach [.Tuple es k q] X.env) (h2 : starEach [.Tuple es k q] X.env = (false, eval (.Tuple es k q) X.env) :: starEach [] X.env) (h3 : (backTo pos (starEach [.Tuple es k q] X.env)).any (·.1) = false) :
    GE X E (.Call (.Name "isinstance" p) [a, .Tuple es k q] [] pos) (sIsi us f) :=
  PE.imp (pe_callB call_isiT hg hm PyProof.Rows.boot_isinstance (pa_cons ha (pa_cons (pe_tup ht) pa_nil h2) h1) (he := h1) (hpl := h3)) fun σ H Q ⟨W, Z, φ, env, M, R, Er, h⟩ => ⟨W, Z, φ, env, M, R, Er, (Run.bind h).imp fun v H1 ⟨W1, M1, x, _, R1, x1, r1, h2⟩ => by
    unfold isiOp at h2
    cases e : tyName M1 x with
    | none => rw [e] at h2; exact h2.elim
    | some t =>
      rw [e] at h2
      refine ⟨by rw [List.length_map]; exact hl, fun tp htp => ?_⟩
      have R2 := R1.laid0 (o := .tup (us.map V.ty)) htp
      have x2 := Ext.laid R1 (o := .tup (us.map V.ty)) htp
      refine ⟨v, tp, us.map V.ty, .type t, us.map Value.type, us.any (isi1 t), rfl, upd_same, ?_, tyName_ok R2 (r1.sr.ext x2.bar) e, kitAny_ty (tyName_mem e) us hu, Run.ok R2 (Run.later x2 h2) (.bl _) (fun _ z => by cases z)⟩
      exact paired_ty us⟩
end

/-! ## calls of own defs -/
def spOf (G : Gm) (F : List AV → Mem → Out AV) : Sp := fun vs H Q E => ∃ W Z φ M avs, Rel G W Z φ M H ∧ SRs G (Bar W Z) φ H avs vs ∧ Run G Z φ W H (F avs M) Q E
/-- a def that may be called here -/
structure Cald (X : Cx) (k : Nat) (x : Str) (F : List AV → Mem → Out AV) : Prop where
  ex : ∃ f fd ps, X.mg x = some (.ref f) ∧ PySem.W.keepIn X.K (.ref f) = true ∧ Binds X.K fd ps [] ∧ FnOk X.prog X.w X.K X.mg X.base (L2.CX X.prog X.w) k f fd ps (spOf (gm X) F)
section
variable {X : Cx} {E : WX} {a e t : Expr} {es : List Expr} {l : SL} {pos p q : Pos} {k : Nat}
theorem ge_call {x : Str} {F : List AV → Mem → Out AV} (c : Cald X k x F) (hr : Room k X.A) (tk : Takes X E) (hg : Gl X x) (hl : GL X E (e :: es) l) (hdb : (x == ("__debug__" : Str)) = false)
    (he : starEach (e :: es) X.env = (false, eval e X.env) :: starEach es X.env) (hpl : (backTo pos (starEach es X.env)).any (·.1) = false) : GE X E (.Call (.Name x p) (e :: es) [] pos) (sArgs F l) := by
  obtain ⟨f, fd, ps, h1, h2, h3, h4⟩ := c.ex
  exact PE.imp (pe_callS h4 hr hg h1 h2 h3 (fun σ => passAt tk σ) hl hdb he hpl) fun σ H Q ⟨W, Z, φ, env, M, R, Er, h⟩ => ⟨W, Z, φ, env, M, R, Er, (Run.bind h).imp fun vs H1 ⟨W1, M1, avs, _, R1, x1, r1, h2⟩ => ⟨W1, Z, φ, M1, avs, R1, r1, h2⟩⟩
end

/-! ## targets -/
inductive Tg where
  | name (i : Nat) | nil | cons (a b : Tg) | tup (a : Tg)
def Tg.bind : Tg → D → Env → Option Env
  | .name i, d, env => some (env.set i (some (.d d)))
  | .nil, .tup [], env => some env
  | .cons a b, .tup (x :: r), env => match a.bind x env with
    | some e => b.bind (.tup r) e
    | none => none
  | .tup a, .tup r, env => a.bind (.tup r) env
  | _, _, _ => none
def Tg.slots : Tg → List Nat
  | .name i => [i]
  | .nil => []
  | .cons a b => a.slots ++ b.slots
  | .tup a => a.slots
def rdT (G : Gm) (t : Tg) : TG := fun v σ H Q => ∃ W Z φ env M d env', Rel G W Z φ M H ∧ EnvR G (Bar W Z) φ H env σ ∧ RD G (Bar W Z) H d v ∧ t.bind d env = some env' ∧
  ∀ σ', EnvR G (Bar W Z) φ H env' σ' → (∀ j, j ∉ t.slots → σ'[j]? = σ[j]?) → Q σ' H
def rdTs (G : Gm) (t : Tg) : TGs := fun vs σ H Q => ∃ W Z φ env M ds env', Rel G W Z φ M H ∧ EnvR G (Bar W Z) φ H env σ ∧ RDs G (Bar W Z) H ds vs ∧ t.bind (.tup ds) env = some env' ∧
  ∀ σ', EnvR G (Bar W Z) φ H env' σ' → (∀ j, j ∉ t.slots → σ'[j]? = σ[j]?) → Q σ' H
theorem EnvR.set {G : Gm} {B : Addr → Prop} {φ : List Addr} {H : Hp} {env : Env} {σ : St} (h : EnvR G B φ H env σ) {av : AV} {v : V} (r : SR G B φ H av v) (i : Nat) : EnvR G B φ H (env.set i (some av)) (σ.set i (some v)) :=
  ⟨by rw [List.length_set, List.length_set]; exact h.len, fun j a e => by
    by_cases hj : i = j
    · subst hj
      by_cases hi : i < env.length
      · rw [List.getElem?_set_self hi] at e
        cases e
        exact ⟨v, List.getElem?_set_self (by rw [← h.len]; exact hi), r⟩
      · rw [List.getElem?_eq_none (by rw [List.length_set]; omega)] at e; cases e
    · rw [List.getElem?_set_ne hj] at e
      obtain ⟨u, e1, r1⟩ := h.at_ j a e
      exact ⟨u, by rw [List.getElem?_set_ne hj]; exact e1, r1⟩⟩
section
variable {X : Cx} {a : Expr} {es : List Expr} {pos : Pos} {t u : Tg}
theorem PG.imp {t t' : TG} (h : PG X a t) (k : ∀ v σ H Q, t' v σ H Q → t v σ H Q) : PG X a t' := ⟨fun pins s σ H v w Q I r q => h.run pins s σ H v w Q I r (k v σ H Q q)⟩
theorem PGs.imp {t t' : TGs} (h : PGs X es t) (k : ∀ v σ H Q, t' v σ H Q → t v σ H Q) : PGs X es t' := ⟨fun pins s σ H v w Q I r q => h.run pins s σ H v w Q I r (k v σ H Q q)⟩
theorem gg_name {i : Nat} {x : Str} (hN : X.N.Nodup) (hi : X.N[i]? = some x) (hx : Loc X.env.scope x) (hf : X.fn x = true ∨ X.env.scope.names.lookup x = some .local) : PG X (.Name x pos) (rdT (gm X) (.name i)) :=
  PG.imp (pg_name hN hi hx hf) fun v σ H Q ⟨W, Z, φ, env, M, d, env', R, Er, r, hb, q⟩ => by
    cases hb
    exact q _ (Er.set (av := .d d) r i) fun j hj => List.getElem?_set_ne fun z => hj (by subst z; simp [Tg.slots])
theorem gg_nil : PGs X [] (rdTs (gm X) .nil) :=
  PGs.imp pgs_nil fun v σ H Q ⟨W, Z, φ, env, M, ds, env', R, Er, r, hb, q⟩ => by
    cases ds with
    | nil => cases r; cases hb; exact ⟨rfl, q _ Er fun _ _ => rfl⟩
    | cons _ _ => cases hb
theorem gg_cons (h1 : PG X a (rdT (gm X) t)) (h2 : PGs X es (rdTs (gm X) u)) (hs : (assignEach (a :: es) X.env).map (·.2) = assign a X.env :: (assignEach es X.env).map (·.2)) : PGs X (a :: es) (rdTs (gm X) (.cons t u)) :=
  PGs.imp (pgs_cons h1 h2 hs) fun v σ H Q ⟨W, Z, φ, env, M, ds, env', R, Er, r, hb, q⟩ => by
    cases ds with
    | nil => cases hb
    | cons d ds =>
      cases r with
      | cons r1 r2 =>
        unfold Tg.bind at hb
        cases e : t.bind d env with
        | none => rw [e] at hb; cases hb
        | some env1 =>
          rw [e] at hb
          refine ⟨_, _, rfl, W, Z, φ, env, M, d, env1, R, Er, r1, e, fun σ1 Er1 s1 => ⟨W, Z, φ, env1, M, ds, env', R, Er1, r2, hb, fun σ2 Er2 s2 => q σ2 Er2 fun j hj => ?_⟩⟩
          simp only [Tg.slots, List.mem_append, not_or] at hj
          rw [s2 j hj.2, s1 j hj.1]
theorem gg_tup {k n : Nat} (hc : X.calm = true) (h : PGs X es (rdTs (gm X) t)) (hn : (assignEach es X.env).length = n) (hst : (assignEach es X.env).findIdx? (·.1) = none)
    (hl : ∀ ds env env', t.bind (.tup ds) env = some env' → ds.length = n) : PG X (.Tuple es k pos) (rdT (gm X) (.tup t)) :=
  PG.imp (pg_tup hc h hn hst) fun v σ H Q ⟨W, Z, φ, env, M, d, env', R, Er, r, hb, q⟩ => by
    cases d with
    | tup ds =>
      cases r with
      | tup r1 r2 => exact ⟨_, _, rfl, r1.sq, by rw [← r2.length]; exact hl ds env env' hb, W, Z, φ, env, M, ds, env', R, Er, r2, hb, q⟩
    | _ => cases hb
end
end Mp

namespace Mp
open PySem L2

/-! ## what is walked -/
structure Itm where
  items : List D
  deps : List (Nat × List D)
def depsOk (M : Mem) (deps : List (Nat × List D)) : Bool := deps.all fun p => decide (M[p.1]? = some (some (.l p.2)))
abbrev SI := Env → Mem → Out Itm
structure Later (G : Gm) (Z : Addr → Prop) (φ : List Addr) (W₁ : Addr → Prop) (H₁ : Hp) (deps : List (Nat × List D)) (Z' W : Addr → Prop) (ψ : List Addr) (M : Mem) (H : Hp) : Prop where
  bar : ∀ a, Z' a → Z a ∨ H₁ a = none
  rel : Rel G W Z' (φ ++ ψ) M H
  ext : Ext W₁ H₁ W H
  ok : depsOk M deps = true
def IR (G : Gm) (Z : Addr → Prop) (φ : List Addr) (W₁ : Addr → Prop) (H₁ : Hp) (it : Itm) (J : It) : Prop :=
  ∃ Gd Y, Walk J it.items.length Gd Y ∧ (∀ Z' W ψ M H, Later G Z φ W₁ H₁ it.deps Z' W ψ M H → Gd H) ∧
    ∀ i x H' Z' W ψ M H, Later G Z φ W₁ H₁ it.deps Z' W ψ M H → i < it.items.length → Y i H x H' → ∃ d, it.items[i]? = some d ∧ Rel G W Z' (φ ++ ψ) M H' ∧ Ext W H W H' ∧ RD G (Bar W Z') H' d x
def rdI (G : Gm) (f : SI) (E : WX) : TI := fun σ H R => ∃ W Z φ env M, Rel G W Z φ M H ∧ EnvR G (Bar W Z) φ H env σ ∧ RunG (fun W' H' _ it J => IR G Z φ W' H' it J) G Z φ W H (f env M) R fun c d H' => E c d σ H'
abbrev GI (X : Cx) (E : WX) (tg e : Expr) (f : SI) : Prop := PI X tg e (rdI (gm X) f E)

section
variable {G : Gm} {W Z W₁ : Addr → Prop} {φ : List Addr} {H H₁ : Hp} {M : Mem} {deps : List (Nat × List D)} {Z' : Addr → Prop} {ψ : List Addr} {E : XK}
/-- data of the start are data later -/
theorem Later.rd (L : Later G Z φ W₁ H₁ deps Z' W ψ M H) : Ext (Bar W₁ Z) H₁ (Bar W Z') H :=
  ⟨fun a o e n => ⟨(L.ext.keep a o e fun z => n (.inl z)).1, fun z => z.elim (L.ext.keep a o e fun z => n (.inl z)).2 fun z => (L.bar a z).elim (fun z => n (.inr z)) fun z => by rw [z] at e; cases e⟩, L.ext.live⟩
theorem IR.run {it : Itm} {J : It} {R : It → Hp → Prop} (Rl : Rel G W Z φ M H) (h : RunG (fun W' H' _ it J => IR G Z φ W' H' it J) G Z φ W H (.ok it M) R E) (q : IR G Z φ W H it J) : R J H := h W H J Rl (Ext.refl _ _) q
/-- a list as it stands at each turn -/
theorem walk_any {K : PySem.W.Frag} {a : Addr} {n : Nat} : Walk (Itl K a) n (fun H => ∃ vs, SqL K H a vs ∧ vs.length = n) (fun i H x H' => H' = H ∧ ∀ vs, SqL K H a vs → vs[i]? = some x) :=
  ⟨fun i H hi ⟨vs, q, e⟩ => ⟨vs, vs[i]'(by omega), q, by simp [e, hi]⟩, fun H ⟨vs, q, e⟩ => ⟨vs, q, by omega⟩, fun _ _ _ _ _ _ y => y⟩
/-- a settled list: how it is met later -/
def depOf (x : AV) (xs : List D) : List (Nat × List D) := match x with
  | .cell i => [(i, xs)]
  | _ => []
theorem lst_later {x : AV} {v : V} {xs : List D} (R : Rel G W₁ Z φ M H₁) (r : SR G (Bar W₁ Z) φ H₁ x v) (h : lstOf M x = some xs) :
    ∃ p, v = .ref p ∧ (∃ vs, SqL G.K H₁ p vs) ∧ ∀ deps Z' W ψ M' H, (∀ q ∈ depOf x xs, q ∈ deps) → Later G Z φ W₁ H₁ deps Z' W ψ M' H → ∃ vs, SqL G.K H p vs ∧ RDs G (Bar W Z') H xs vs := by
  obtain ⟨p, vs, rfl, h1, h2, h3⟩ := R.lst r h
  refine ⟨p, rfl, ⟨vs, h1⟩, fun deps Z' W ψ M' H hd L => ?_⟩
  cases x with
  | cell i =>
    obtain ⟨p', e, e'⟩ := r
    cases e'
    have hd := hd (i, xs) (by simp [depOf])
    have ok := List.all_eq_true.mp L.ok _ hd
    have ok := of_decide_eq_true ok
    obtain ⟨_, vs', k1, k2⟩ := L.rel.cell i p _ (by rw [List.getElem?_append_left (List.getElem?_eq_some_iff.mp e).1]; exact e) ok
    exact ⟨vs', .of k1, k2⟩
  | d y =>
    have r' : RD G (Bar W Z') H y (.ref p) := RD.ext L.rd r
    cases y with
    | lst ys =>
      have e : ys = xs := by simpa [lstOf] using h
      subst e
      cases r' with | lst k1 k2 => exact ⟨_, k1.sq, k2⟩
    | _ => cases h
  | fr ys =>
    have r' : RD G (Bar W Z') H (.lst ys) (.ref p) := RD.ext L.rd r
    have e : ys = xs := by simpa [lstOf] using h
    subst e
    cases r' with | lst k1 k2 => exact ⟨_, k1.sq, k2⟩
  | scr ns =>
    obtain ⟨a, e, s⟩ := r
    cases e
    have e : ns.map D.int = xs := by simpa [lstOf] using h
    subst e
    exact ⟨_, (s.ext L.rd).sq, RDs.of_ints ns⟩
end

/-! ### lists, tuples, texts -/
def chars (z : Str) : List D := z.cps.toList.map fun c => .str ⟨#[c]⟩
def seqItm (M : Mem) (x : AV) : Option Itm := match lstOf M x, x with
  | some xs, _ => some ⟨xs, depOf x xs⟩
  | none, .d (.tup xs) => some ⟨xs, []⟩
  | none, .d (.str z) => some ⟨chars z, []⟩
  | _, _ => none
def sSeq (f : SE) : SI := fun env M => (f env M).bind fun x M1 => match seqItm M1 x with
  | some it => .ok it M1
  | none => .bad
section
variable {X : Cx} {E : WX} {tg a b c e : Expr} {f g k : SE} {l : SL} {pos p : Pos}
theorem PI.imp {t t' : TI} (h : PI X tg e t) (k : ∀ σ H Q, t' σ H Q → t σ H Q) : PI X tg e t' := ⟨fun pins s σ H Q I q => h.run pins s σ H Q I (k σ H Q q)⟩
theorem PI.or {t t' : TI} (h : PI X tg e t) (h' : PI X tg e t') : PI X tg e (fun σ H Q => t σ H Q ∨ t' σ H Q) := ⟨fun pins s σ H Q I q => q.elim (h.run pins s σ H Q I) (h'.run pins s σ H Q I)⟩
theorem RunI.bind {α β : Type} {G : Gm} {W Z : Addr → Prop} {φ : List Addr} {H : Hp} {E : XK} {R : (Addr → Prop) → Hp → Mem → α → β → Prop} {r : Out α} {k : α → Mem → Out Itm} {Q : It → Hp → Prop}
    (h : RunG (fun W' H' _ it J => IR G Z φ W' H' it J) G Z φ W H (r.bind k) Q E) :
    RunG R G Z φ W H r (fun v H1 => ∃ W1 M1 a, r = .ok a M1 ∧ Rel G W1 Z φ M1 H1 ∧ Ext W H W1 H1 ∧ R W1 H1 M1 a v ∧ RunG (fun W' H' _ it J => IR G Z φ W' H' it J) G Z φ W1 H1 (k a M1) Q E) E :=
  RunG.bind (R2 := fun _ _ W' H' _ it J => IR G Z φ W' H' it J) h fun W1 H1 a M1 x => by
    cases k a M1 with
    | ok it M' => exact fun q W' H' v R y z => q W' H' v R (x.trans y) z
    | exc e M' => exact fun q W' H' c d R y z => q W' H' c d R (x.trans y) z
    | bad => exact fun q => q
theorem gi_seq (ha : GE X E a f) : GI X E tg a (sSeq f) := by
  refine PI.imp (PI.or (PI.or (pi_list (tg := tg) ha) (pi_tup (tg := tg) ha)) (pi_str (tg := tg) ha)) fun σ H Q ⟨W, Z, φ, env, M, R, Er, h⟩ => ?_
  have h1 := RunI.bind (R := fun W' H' M' av v => VR (gm X) W' Z φ H H' M' av v) h
  have go : ∀ {P : V → Hp → Prop}, (∀ v H1 W1 M1 x, f env M = .ok x M1 → Rel (gm X) W1 Z φ M1 H1 → SR (gm X) (Bar W1 Z) φ H1 x v →
      RunG (fun W' H' _ it J => IR (gm X) Z φ W' H' it J) (gm X) Z φ W1 H1 (match seqItm M1 x with | some it => .ok it M1 | none => .bad) Q (fun c d H' => E c d σ H') → P v H1) → rdE (gm X) f E σ H P := fun {P} hP =>
    ⟨W, Z, φ, env, M, R, Er, h1.imp fun v H1 ⟨W1, M1, x, e, R1, x1, r1, h2⟩ => hP v H1 W1 M1 x e R1 r1.sr h2⟩
  cases e : f env M with
  | bad => exact .inl (.inl (go fun v H1 W1 M1 x e1 => by rw [e] at e1; cases e1))
  | exc _ _ => exact .inl (.inl (go fun v H1 W1 M1 x e1 => by rw [e] at e1; cases e1))
  | ok x M1 =>
    cases el : lstOf M1 x with
    | some xs =>
      refine .inl (.inl (go fun v H1 W1 M1' x' e1 R1 r1 h2 => ?_))
      rw [e] at e1; cases e1
      have es : seqItm M1 x = some ⟨xs, depOf x xs⟩ := by unfold seqItm; rw [el]
      rw [es] at h2
      obtain ⟨p, rfl, hq, hl⟩ := lst_later R1 r1 el
      refine ⟨p, rfl, hq, IR.run R1 h2 ⟨_, _, walk_any, fun Z' W ψ M H L => ?_, fun i y H' Z' W ψ M H L hi hy => ?_⟩⟩
      · obtain ⟨vs, h1, h2⟩ := hl _ Z' W ψ M H (fun _ z => z) L
        exact ⟨vs, h1, h2.length.symm⟩
      · obtain ⟨vs, h1, h2⟩ := hl _ Z' W ψ M H (fun _ z => z) L
        obtain ⟨rfl, hy⟩ := hy
        have hy := hy vs h1
        obtain ⟨d, hd⟩ : ∃ d, xs[i]? = some d := ⟨xs[i], by simp [show i < xs.length from hi]⟩
        obtain ⟨w, e1, r1⟩ := h2.get hd
        rw [hy] at e1; cases e1
        exact ⟨d, hd, L.rel, Ext.refl _ _, r1⟩
    | none =>
      have other : ∀ {R : Itm → Prop}, seqItm M1 x = none → True := fun _ => trivial
      cases x with
      | d y =>
        cases y with
        | tup xs =>
          refine .inl (.inr (go fun v H1 W1 M1' x' e1 R1 r1 h2 => ?_))
          rw [e] at e1; cases e1
          cases r1 with
          | tup k1 k2 =>
            rename_i p vs
            refine ⟨p, rfl, ⟨vs, k1.sq⟩, ?_⟩
            have ln : vs.length = xs.length := k2.length.symm
            have w := walk_tup (K := X.K) (a := p) (xs := vs)
            rw [ln] at w
            refine IR.run R1 h2 ⟨_, _, w, fun Z' W ψ M H L => (k1.ext L.rd).sq, fun i y H' Z' W ψ M H L hi hy => ?_⟩
            obtain ⟨rfl, hy⟩ := hy
            obtain ⟨d, hd⟩ : ∃ d, xs[i]? = some d := ⟨xs[i], by simp [show i < xs.length from hi]⟩
            obtain ⟨w, e1, r1⟩ := (k2.ext L.rd).get hd
            rw [hy] at e1; cases e1
            exact ⟨d, hd, L.rel, Ext.refl _ _, r1⟩
        | str z =>
          refine .inr (go fun v H1 W1 M1' x' e1 R1 r1 h2 => ?_)
          rw [e] at e1; cases e1
          cases r1
          refine ⟨z, rfl, ?_⟩
          have w := walk_str (z := z)
          have ln : z.cps.size = (chars z).length := by unfold chars; simp
          rw [ln] at w
          refine IR.run R1 h2 ⟨_, _, w, fun _ _ _ _ _ _ => trivial, fun i y H' Z' W ψ M H L hi hy => ?_⟩
          obtain ⟨rfl, c, hc, rfl⟩ := hy
          exact ⟨.str ⟨#[c]⟩, by unfold chars; simp [hc], L.rel, Ext.refl _ _, .str _⟩
        | _ =>
          refine .inl (.inl (go fun v H1 W1 M1' x' e1 R1 r1 h2 => ?_))
          rw [e] at e1; cases e1
          first | exact h2.elim | (simp [lstOf] at el)
      | _ =>
        refine .inl (.inl (go fun v H1 W1 M1' x' e1 R1 r1 h2 => ?_))
        rw [e] at e1; cases e1
        unfold seqItm at h2
        rw [el] at h2
        exact h2.elim
/-! ### ranges -/
end
def rngL (lo : Int) (n : Nat) : List D := (List.range n).map fun (k : Nat) => .int (lo + k)
def rngC (lo c : Int) (n : Nat) : List D := (List.range n).map fun (k : Nat) => .int (lo + k * c)
def small62 (i : Int) : Bool := decide (-(2 ^ 62) ≤ i) && decide (i < 2 ^ 62)
def rngItm : List AV → Option Itm
  | [.d (.int j)] => if small62 j = true then some ⟨rngL 0 j.toNat, []⟩ else none
  | [.d (.int i), .d (.int j)] => if (small62 i && small62 j) = true then some ⟨rngL i (j - i).toNat, []⟩ else none
  | [.d (.int i), .d (.int j), .d (.int c)] =>
    if c = -1 then (if (small62 i && small62 j) = true then some ⟨rngC i (-1) (i - j).toNat, []⟩ else none)
    else if c ≠ 0 ∧ c.natAbs < 1073741824 ∧ Builtin.Range.small i j c = true ∧ Builtin.Range.rangeSize i j c = ((Builtin.Range.rangeSize i j c).toNat : Int) then some ⟨rngC i c (Builtin.Range.rangeSize i j c).toNat, []⟩ else none
  | _ => none
def sRng (l : SL) : SI := fun env M => (l env M).bind fun avs M1 => match rngItm avs with
  | some it => .ok it M1
  | none => .bad
theorem rngL_at {lo : Int} {n i : Nat} (h : i < n) : (rngL lo n)[i]? = some (.int (lo + i)) := by unfold rngL; simp [h]
theorem rngC_at {lo c : Int} {n i : Nat} (h : i < n) : (rngC lo c n)[i]? = some (.int (lo + i * c)) := by unfold rngC; simp [h]
theorem rngL_len {lo : Int} {n : Nat} : (rngL lo n).length = n := by unfold rngL; simp
theorem rngC_len {lo c : Int} {n : Nat} : (rngC lo c n).length = n := by unfold rngC; simp
theorem small62_ok {i : Int} (h : small62 i = true) : -(2 ^ 62) ≤ i ∧ i < 2 ^ 62 := by
  unfold small62 at h
  simpa using h
section
variable {G : Gm} {W Z W₁ : Addr → Prop} {φ : List Addr} {H H₁ : Hp} {M : Mem} {E : XK}
theorem ir_rng {lo : Int} {n : Nat} : IR G Z φ W H ⟨rngL lo n, []⟩ (Itr lo n) := by
  have w := walk_range (lo := lo) (n := n)
  refine ⟨fun _ => True, YFn fun i => .int (lo + i), by show Walk _ (rngL lo n).length _ _; rw [rngL_len]; exact w, fun _ _ _ _ _ _ => trivial, fun i y H' Z' W ψ M H L hi hy => ?_⟩
  obtain ⟨rfl, rfl⟩ := hy
  exact ⟨_, rngL_at (by simpa [rngL_len] using hi), L.rel, Ext.refl _ _, .int _⟩
theorem ir_rngC {lo c : Int} {n : Nat} : IR G Z φ W H ⟨rngC lo c n, []⟩ (Itc lo c n) := by
  have w := walk_rangeC (lo := lo) (c := c) (n := n)
  refine ⟨fun _ => True, YFn fun i => .int (lo + (i : Nat) * c), by show Walk _ (rngC lo c n).length _ _; rw [rngC_len]; exact w, fun _ _ _ _ _ _ => trivial, fun i y H' Z' W ψ M H L hi hy => ?_⟩
  obtain ⟨rfl, rfl⟩ := hy
  exact ⟨_, rngC_at (by simpa [rngC_len] using hi), L.rel, Ext.refl _ _, .int _⟩
end
section
variable {X : Cx} {E : WX} {tg a b c e : Expr} {f g k : SE} {l : SL} {pos p : Pos}
theorem gi_rng1 (hg : Gl X "range") (hm : X.mg "range" = none) (hs : starEach [a] X.env = [(false, eval a X.env)]) (hl : GL X E [a] l) (h1 : ∀ env M avs M', l env M = .ok avs M' → avs.length = 1) : GI X E tg (.Call (.Name "range" p) [a] [] pos) (sRng l) :=
  PI.imp (pi_range1 hg hm hl hs) fun σ H Q ⟨W, Z, φ, env, M, R, Er, h⟩ => ⟨W, Z, φ, env, M, R, Er, (RunI.bind h).imp fun vs H1 ⟨W1, M1, avs, e, R1, x1, r1, h2⟩ => by
    have ln := h1 _ _ _ _ e
    unfold rngItm at h2
    split at h2
    · rename_i it e2
      split at e2
      · split at e2
        · rename_i j hj
          cases e2
          obtain ⟨v, rfl, r⟩ := r1.one
          cases r
          exact ⟨j, rfl, (small62_ok hj).1, (small62_ok hj).2, IR.run R1 h2 ir_rng⟩
        · cases e2
      · cases ln
      · cases ln
      · cases e2
    · exact h2.elim⟩
theorem gi_rng2 (hg : Gl X "range") (hm : X.mg "range" = none) (hs : starEach [a, b] X.env = [(false, eval a X.env), (false, eval b X.env)]) (hs2 : starEach [b] X.env = [(false, eval b X.env)]) (hl : GL X E [a, b] l) (h1 : ∀ env M avs M', l env M = .ok avs M' → avs.length = 2) :
    GI X E tg (.Call (.Name "range" p) [a, b] [] pos) (sRng l) :=
  PI.imp (pi_range2 hg hm hl hs hs2) fun σ H Q ⟨W, Z, φ, env, M, R, Er, h⟩ => ⟨W, Z, φ, env, M, R, Er, (RunI.bind h).imp fun vs H1 ⟨W1, M1, avs, e, R1, x1, r1, h2⟩ => by
    have ln := h1 _ _ _ _ e
    unfold rngItm at h2
    split at h2
    · rename_i it e2
      split at e2
      · cases ln
      · split at e2
        · rename_i i j hj
          cases e2
          obtain ⟨v, u, rfl, r, r'⟩ := r1.two
          cases r; cases r'
          rw [Bool.and_eq_true] at hj
          exact ⟨i, j, rfl, ⟨(small62_ok hj.1).1, (small62_ok hj.1).2, (small62_ok hj.2).1, (small62_ok hj.2).2⟩, IR.run R1 h2 ir_rng⟩
        · cases e2
      · cases ln
      · cases e2
    · exact h2.elim⟩
theorem SRs.three {G : Gm} {B : Addr → Prop} {φ : List Addr} {H : Hp} {a b c : AV} {vs : List V} (r : SRs G B φ H [a, b, c] vs) : ∃ v u w, vs = [v, u, w] ∧ SR G B φ H a v ∧ SR G B φ H b u ∧ SR G B φ H c w := by
  match vs, r with
  | [v, u, w], ⟨h, h2, h3, _⟩ => exact ⟨v, u, w, rfl, h, h2, h3⟩
theorem gi_rng3 (hp : ∀ {t : TA}, PA X [a, b, c] t → PI X tg (.Call (.Name "range" p) [a, b, c] [] pos) (iRng3 t)) (hl : GL X E [a, b, c] l) (h1 : ∀ env M avs M', l env M = .ok avs M' → avs.length = 3) :
    GI X E tg (.Call (.Name "range" p) [a, b, c] [] pos) (sRng l) :=
  PI.imp (hp hl) fun σ H Q ⟨W, Z, φ, env, M, R, Er, h⟩ => ⟨W, Z, φ, env, M, R, Er, (RunI.bind h).imp fun vs H1 ⟨W1, M1, avs, e, R1, x1, r1, h2⟩ => by
    have ln := h1 _ _ _ _ e
    unfold rngItm at h2
    split at h2
    · rename_i it e2
      split at e2
      · cases ln
      · cases ln
      · obtain ⟨v, u, w, rfl, r, r', r''⟩ := r1.three
        cases r; cases r'; cases r''
        split at e2
        · rename_i hc
          subst hc
          split at e2
          · rename_i hj
            cases e2
            rw [Bool.and_eq_true] at hj
            exact ⟨_, _, _, _, rfl, .neg (small62_ok hj.1).1 (small62_ok hj.1).2 (small62_ok hj.2).1 (small62_ok hj.2).2, IR.run R1 h2 ir_rngC⟩
          · cases e2
        · split at e2
          · rename_i hc
            cases e2
            exact ⟨_, _, _, _, rfl, hc, IR.run R1 h2 ir_rngC⟩
          · cases e2
      · cases e2
    · exact h2.elim⟩
end
/-! ### enumerate, zip -/
def enumL : Nat → List D → List D
  | _, [] => []
  | k, x :: r => .tup [.int k, x] :: enumL (k + 1) r
def zipL : List D → List D → List D
  | x :: r, y :: s => .tup [x, y] :: zipL r s
  | _, _ => []
theorem enumL_at : ∀ {xs : List D} {k i : Nat} {x : D}, xs[i]? = some x → (enumL k xs)[i]? = some (.tup [.int ((k + i : Nat) : Int), x])
  | [], _, _, _, h => by simp at h
  | _ :: _, k, 0, _, h => by simp at h; subst h; rfl
  | _ :: r, k, i + 1, x, h => by
    have ih := enumL_at (xs := r) (k := k + 1) (i := i) (x := x) (by simpa using h)
    have e : k + 1 + i = k + (i + 1) := by omega
    rw [e] at ih
    simpa [enumL] using ih
theorem enumL_len : ∀ (xs : List D) (k : Nat), (enumL k xs).length = xs.length
  | [], _ => rfl
  | _ :: r, k => by simp [enumL, enumL_len r (k + 1)]
theorem zipL_at : ∀ {xs ys : List D} {i : Nat} {x y : D}, xs[i]? = some x → ys[i]? = some y → (zipL xs ys)[i]? = some (.tup [x, y])
  | [], _, _, _, _, h, _ => by simp at h
  | _ :: _, [], _, _, _, _, h => by simp at h
  | _ :: _, _ :: _, 0, _, _, h, h' => by simp at h h'; subst h; subst h'; rfl
  | _ :: r, _ :: s, i + 1, x, y, h, h' => by simpa [zipL] using zipL_at (xs := r) (ys := s) (i := i) (x := x) (y := y) (by simpa using h) (by simpa using h')
theorem zipL_len : ∀ (xs ys : List D), (zipL xs ys).length = min xs.length ys.length
  | [], _ => by simp [zipL]
  | _ :: _, [] => by simp [zipL]
  | _ :: r, _ :: s => by simp [zipL, zipL_len r s]
def enumItm (M : Mem) : List AV → Option Itm
  | [x] => match lstOf M x with
    | some xs => some ⟨enumL 0 xs, depOf x xs⟩
    | none => none
  | _ => none
def zipItm (M : Mem) : List AV → Option Itm
  | [x, y] => match lstOf M x, lstOf M y, tupOf x, tupOf y with
    | some xs, some ys, _, _ => some ⟨zipL xs ys, depOf x xs ++ depOf y ys⟩
    | none, none, some xs, some ys => some ⟨zipL xs ys, []⟩
    | _, _, _, _ => none
  | _ => none
def sItm (op : Mem → List AV → Option Itm) (l : SL) : SI := fun env M => (l env M).bind fun avs M1 => match op M1 avs with
  | some it => .ok it M1
  | none => .bad
theorem walk_enumA {K : PySem.W.Frag} {a : Addr} {n : Nat} : Walk (Ite K a) n (fun H => ∃ vs, SqL K H a vs ∧ vs.length = n)
    (fun i H v H' => ∃ T x, v = .ref T ∧ H T = none ∧ H' = upd H T (.tup [.int (i : Nat), x]) ∧ ∀ vs, SqL K H a vs → vs[i]? = some x) :=
  ⟨fun i H hi ⟨vs, q, e⟩ => ⟨vs, vs[i]'(by omega), q, by simp [e, hi]⟩, fun H ⟨vs, q, e⟩ => ⟨vs, q, by omega⟩, fun _ _ _ _ _ _ y => y⟩
theorem walk_zipL {K : PySem.W.Frag} {a b : Addr} {n m : Nat} : Walk (Itz K a b) (min n m) (fun H => ∃ vs us, SqL K H a vs ∧ SqL K H b us ∧ vs.length = n ∧ us.length = m)
    (fun i H v H' => ∃ T x y, v = .ref T ∧ H T = none ∧ H' = upd H T (.tup [x, y]) ∧ (∀ vs, SqL K H a vs → vs[i]? = some x) ∧ ∀ us, SqL K H b us → us[i]? = some y) :=
  ⟨fun i H hi ⟨vs, us, q, q2, e, e2⟩ => ⟨vs, us, vs[i]'(by omega), us[i]'(by omega), q, q2, by simp [show i < vs.length by omega], by simp [show i < us.length by omega]⟩,
    fun H ⟨vs, us, q, q2, e, e2⟩ => ⟨vs, us, q, q2, by omega⟩, fun _ _ _ _ _ _ y => y⟩
theorem walk_zipT {K : PySem.W.Frag} {a b : Addr} {n m : Nat} : Walk (RZ.ItzT K a b) (min n m) (fun H => ∃ vs us, SqT K H a vs ∧ SqT K H b us ∧ vs.length = n ∧ us.length = m)
    (fun i H v H' => ∃ T x y, v = .ref T ∧ H T = none ∧ H' = upd H T (.tup [x, y]) ∧ (∀ vs, SqT K H a vs → vs[i]? = some x) ∧ ∀ us, SqT K H b us → us[i]? = some y) :=
  ⟨fun i H hi ⟨vs, us, q, q2, e, e2⟩ => ⟨vs, us, vs[i]'(by omega), us[i]'(by omega), q, q2, by simp [show i < vs.length by omega], by simp [show i < us.length by omega]⟩,
    fun H ⟨vs, us, q, q2, e, e2⟩ => ⟨vs, us, q, q2, by omega⟩, fun _ _ _ _ _ _ y => y⟩
section
variable {G : Gm} {W Z B : Addr → Prop} {φ : List Addr} {H : Hp} {M : Mem}
/-- a new pair -/
theorem pair_new {x y : D} {v u : V} {T : Addr} (R : Rel G W Z φ M H) (hT : H T = none) (r1 : RD G (Bar W Z) H x v) (r2 : RD G (Bar W Z) H y u) :
    Rel G W Z φ M (upd H T (.tup [v, u])) ∧ Ext W H W (upd H T (.tup [v, u])) ∧ RD G (Bar W Z) (upd H T (.tup [v, u])) (.tup [x, y]) (.ref T) := by
  have x1 := Ext.laid R (o := .tup [v, u]) hT
  exact ⟨R.laid0 hT, x1, .tup ⟨upd_same, fun z => z.elim (fun z => R.wt T z hT) fun z => R.zt T z hT⟩ (.cons (r1.ext x1.bar) (.cons (r2.ext x1.bar) .nil))⟩
end
section
variable {X : Cx} {E : WX} {a b c e : Expr} {es : List Expr} {f g k : SE} {l : SL} {pos p tpos : Pos} {kk : Nat}
theorem gi_enum (hg : Gl X "enumerate") (hm : X.mg "enumerate" = none) (hs : starEach [a] X.env = [(false, eval a X.env)]) (hl : GL X E [a] l) : GI X E (.Tuple es kk tpos) (.Call (.Name "enumerate" p) [a] [] pos) (sItm enumItm l) :=
  PI.imp (pi_enum hg hm hl hs) fun σ H Q ⟨W, Z, φ, env, M, R, Er, h⟩ => ⟨W, Z, φ, env, M, R, Er, (RunI.bind h).imp fun vs H1 ⟨W1, M1, avs, e, R1, x1, r1, h2⟩ => by
    unfold enumItm at h2
    split at h2
    · rename_i it e2
      split at e2
      · obtain ⟨v, rfl, r⟩ := r1.one
        split at e2
        · rename_i xs el
          cases e2
          obtain ⟨p, rfl, ⟨vs, hq⟩, hL⟩ := lst_later R1 r el
          refine ⟨p, vs, rfl, hq, IR.run R1 h2 ⟨_, _, walk_enumA, fun Z' W ψ M H L => ?_, fun i y H' Z' W ψ M H L hi hy => ?_⟩⟩
          · obtain ⟨vs, h1, h2⟩ := hL _ Z' W ψ M H (fun _ z => z) L
            exact ⟨vs, h1, by rw [← h2.length]; exact (enumL_len xs 0).symm⟩
          · obtain ⟨vs, h1, h2⟩ := hL _ Z' W ψ M H (fun _ z => z) L
            obtain ⟨T, u, rfl, hT, rfl, hy⟩ := hy
            have hy := hy vs h1
            have hi : i < xs.length := by simpa [enumL_len] using hi
            obtain ⟨w, e1, r1⟩ := h2.get (show xs[i]? = some xs[i] by simp [hi])
            rw [hy] at e1; cases e1
            obtain ⟨p1, p2, p3⟩ := pair_new L.rel hT (.int (i : Int)) r1
            refine ⟨_, enumL_at (show xs[i]? = some xs[i] by simp [hi]), p1, p2, ?_⟩
            rw [Nat.zero_add]
            exact p3
        · cases e2
      · cases e2
    · exact h2.elim⟩
theorem gi_zip (hg : Gl X "zip") (hm : X.mg "zip" = none) (hp : ∀ {t : TA}, PA X [a, b] t → PI X (.Tuple es kk tpos) (.Call (.Name "zip" p) [a, b] [] pos) (RZ.iZipA X.K t)) (hl : GL X E [a, b] l) : GI X E (.Tuple es kk tpos) (.Call (.Name "zip" p) [a, b] [] pos) (sItm zipItm l) :=
  PI.imp (hp hl) fun σ H Q ⟨W, Z, φ, env, M, R, Er, h⟩ => ⟨W, Z, φ, env, M, R, Er, (RunI.bind h).imp fun vs H1 ⟨W1, M1, avs, e, R1, x1, r1, h2⟩ => by
    unfold zipItm at h2
    split at h2
    · rename_i it e2
      split at e2
      · obtain ⟨v, u, rfl, r, r'⟩ := r1.two
        split at e2
        · rename_i xs ys el el'
          cases e2
          obtain ⟨p, rfl, ⟨vs, hq⟩, hL⟩ := lst_later R1 r el
          obtain ⟨q, rfl, ⟨us, hq'⟩, hL'⟩ := lst_later R1 r' el'
          refine ⟨p, q, vs, us, rfl, .inl ⟨hq, hq', IR.run R1 h2 ⟨_, _, by show Walk _ (zipL xs ys).length _ _; rw [zipL_len]; exact walk_zipL, fun Z' W ψ M H L => ?_, fun i y H' Z' W ψ M H L hi hy => ?_⟩⟩⟩
          · obtain ⟨vs, h1, h2⟩ := hL _ Z' W ψ M H (fun _ z => List.mem_append_left _ z) L
            obtain ⟨us, h3, h4⟩ := hL' _ Z' W ψ M H (fun _ z => List.mem_append_right _ z) L
            exact ⟨vs, us, h1, h3, h2.length.symm, h4.length.symm⟩
          · obtain ⟨vs, h1, h2⟩ := hL _ Z' W ψ M H (fun _ z => List.mem_append_left _ z) L
            obtain ⟨us, h3, h4⟩ := hL' _ Z' W ψ M H (fun _ z => List.mem_append_right _ z) L
            obtain ⟨T, x, y, rfl, hT, rfl, hy, hy'⟩ := hy
            have hy := hy vs h1
            have hy' := hy' us h3
            have hi : i < min xs.length ys.length := by simpa [zipL_len] using hi
            have e1 : xs[i]? = some (xs[i]'(by omega)) := by simp [show i < xs.length by omega]
            have e2 : ys[i]? = some (ys[i]'(by omega)) := by simp [show i < ys.length by omega]
            obtain ⟨w, f1, r1⟩ := h2.get e1
            obtain ⟨w', f2, r2⟩ := h4.get e2
            rw [hy] at f1; cases f1
            rw [hy'] at f2; cases f2
            obtain ⟨p1, p2, p3⟩ := pair_new L.rel hT r1 r2
            exact ⟨_, zipL_at e1 e2, p1, p2, p3⟩
        · rename_i xs ys _ _ et et'
          cases e2
          obtain ⟨p, vs, rfl, t1, d1⟩ := tup_met r et
          obtain ⟨q, us, rfl, t2, d2⟩ := tup_met r' et'
          refine ⟨p, q, vs, us, rfl, .inr ⟨t1.sq, t2.sq, IR.run R1 h2 ⟨_, _, by show Walk _ (zipL xs ys).length _ _; rw [zipL_len]; exact walk_zipT, fun Z' W ψ M H L => ?_, fun i y H' Z' W ψ M H L hi hy => ?_⟩⟩⟩
          · exact ⟨vs, us, (t1.ext L.rd).sq, (t2.ext L.rd).sq, d1.length.symm, d2.length.symm⟩
          · obtain ⟨T, x, y, rfl, hT, rfl, hy, hy'⟩ := hy
            have hy := hy vs (t1.ext L.rd).sq
            have hy' := hy' us (t2.ext L.rd).sq
            have hi : i < min xs.length ys.length := by simpa [zipL_len] using hi
            have e1 : xs[i]? = some (xs[i]'(by omega)) := by simp [show i < xs.length by omega]
            have e2 : ys[i]? = some (ys[i]'(by omega)) := by simp [show i < ys.length by omega]
            obtain ⟨w, f1, r1⟩ := (d1.ext L.rd).get e1
            obtain ⟨w', f2, r2⟩ := (d2.ext L.rd).get e2
            rw [hy] at f1; cases f1
            rw [hy'] at f2; cases f2
            obtain ⟨p1, p2, p3⟩ := pair_new L.rel hT r1 r2
            exact ⟨_, zipL_at e1 e2, p1, p2, p3⟩
        · cases e2
      · cases e2
    · exact h2.elim⟩
end
end Mp

namespace Mp
open PySem L2

/-! ## list comprehensions -/
def wipeE (env : Env) : List Nat → Env
  | [] => env
  | v :: vs => (wipeE env vs).set v none
def compL (elt : SE) (cond : SB) (tg : Tg) (vs : List Nat) (deps : List (Nat × List D)) (env : Env) : List D → List D → Mem → Out AV
  | [], acc, M => if depsOk M deps = true then .ok (.fr acc) M else .bad
  | d :: r, acc, M => if depsOk M deps = true then
      match tg.bind d (wipeE env vs) with
      | none => .bad
      | some env' => match cond env' M with
        | .ok true M1 => match elt env' M1 with
          | .ok av M2 => match keepD av M2 with
            | some (x, M3) => if acc.length < sizeLine then compL elt cond tg vs deps env r (acc ++ [x]) M3 else .bad
            | none => .bad
          | _ => .bad
        | .ok false M1 => compL elt cond tg vs deps env r acc M1
        | _ => .bad
    else .bad
def sComp (it : SI) (tg : Tg) (cond : SB) (elt : SE) (vs : List Nat) : SE := fun env M => (it env M).bind fun itm M1 => compL elt cond tg vs itm.deps env itm.items [] M1
def sYes : SB := fun _ M => .ok true M
abbrev FW : WX := fun _ _ _ _ => False

theorem wipe_in {σ : St} {i : Nat} : ∀ {vs : List Nat}, i ∈ vs → i < σ.length → (wipe σ vs)[i]? = some none
  | v :: vs, h, hi => by
    unfold wipe
    by_cases e : v = i
    · subst e
      exact List.getElem?_set_self (by rw [wipe_length]; exact hi)
    · rw [List.getElem?_set_ne e]
      rcases List.mem_cons.mp h with h | h
      · exact absurd h.symm e
      · exact wipe_in h hi
theorem wipe_same {σ σ' : St} {vs : List Nat} (hl : σ'.length = σ.length) (h : ∀ j, j ∉ vs → σ'[j]? = σ[j]?) : wipe σ' vs = wipe σ vs := by
  apply List.ext_getElem?
  intro i
  by_cases hi : i ∈ vs
  · by_cases hl' : i < σ.length
    · rw [wipe_in hi hl', wipe_in hi (by omega)]
    · rw [List.getElem?_eq_none (by rw [wipe_length]; omega), List.getElem?_eq_none (by rw [wipe_length]; omega)]
  · rw [wipe_out hi, wipe_out hi]
    exact h i hi
theorem EnvR.wipe {G : Gm} {B : Addr → Prop} {φ : List Addr} {H : Hp} {env : Env} {σ : St} (h : EnvR G B φ H env σ) : ∀ vs : List Nat, EnvR G B φ H (wipeE env vs) (L2.wipe σ vs)
  | [] => h
  | v :: vs => by
    have ih := EnvR.wipe h vs
    refine ⟨by unfold wipeE L2.wipe; rw [List.length_set, List.length_set]; exact ih.len, fun i av e => ?_⟩
    unfold wipeE at e
    unfold L2.wipe
    by_cases hv : v = i
    · subst hv
      by_cases hi : v < (wipeE env vs).length
      · rw [List.getElem?_set_self hi] at e; cases e
      · rw [List.getElem?_eq_none (by rw [List.length_set]; omega)] at e; cases e
    · rw [List.getElem?_set_ne hv] at e
      obtain ⟨u, e1, r⟩ := ih.at_ i av e
      exact ⟨u, by rw [List.getElem?_set_ne hv]; exact e1, r⟩
theorem Tg.bind_cons {a b : Tg} {d : D} {env env' : Env} (h : (Tg.cons a b).bind d env = some env') : ∃ x r e, d = .tup (x :: r) ∧ a.bind x env = some e ∧ b.bind (.tup r) e = some env' := by
  cases d with
  | tup xs =>
    cases xs with
    | nil => cases h
    | cons x r =>
      unfold Tg.bind at h
      cases e1 : a.bind x env with
      | none => rw [e1] at h; cases h
      | some e => rw [e1] at h; exact ⟨x, r, e, rfl, e1, h⟩
  | _ => cases h
theorem Tg.bind_tup {a : Tg} {d : D} {env env' : Env} (h : (Tg.tup a).bind d env = some env') : ∃ r, d = .tup r ∧ a.bind (.tup r) env = some env' := by
  cases d with
  | tup xs => exact ⟨xs, rfl, h⟩
  | _ => cases h
theorem Tg.bind_nil {d : D} {env env' : Env} (h : Tg.nil.bind d env = some env') : d = .tup [] ∧ env' = env := by
  cases d with
  | tup xs =>
    cases xs with
    | nil => cases h; exact ⟨rfl, rfl⟩
    | cons x r => cases h
  | _ => cases h
theorem Tg.len : ∀ {t : Tg} {d : D} {env env' : Env}, t.bind d env = some env' → env'.length = env.length
  | .name i, d, env, env', h => by cases h; simp
  | .nil, d, env, env', h => by rw [(Tg.bind_nil h).2]
  | .cons a b, d, env, env', h => by
    obtain ⟨x, r, e, rfl, h1, h2⟩ := Tg.bind_cons h
    rw [Tg.len h2, Tg.len h1]
  | .tup a, d, env, env', h => by
    obtain ⟨r, rfl, h1⟩ := Tg.bind_tup h
    exact Tg.len h1
theorem wipeE_len (env : Env) : ∀ vs : List Nat, (wipeE env vs).length = env.length
  | [] => rfl
  | v :: vs => by unfold wipeE; rw [List.length_set, wipeE_len env vs]

section
variable {G : Gm} {W W' Z B B' : Addr → Prop} {φ : List Addr} {H H' : Hp} {M : Mem} {D : Addr} {o : HO}
/-- a barred object changes -/
theorem Ext.updBar (x : Ext B H B' H') (hb : B D) : Ext B H B' (upd H' D o) :=
  ⟨fun a u e n => ⟨by rw [upd_ne fun z => n (by rw [z]; exact hb)]; exact (x.keep a u e n).1, (x.keep a u e n).2⟩, fun a e => by
    by_cases z : a = D
    · rw [z, upd_same]; simp
    · rw [upd_ne z]; exact x.live a e⟩
theorem Ext.updNew (x : Ext B H B' H') (hn : H D = none) : Ext B H B' (upd H' D o) :=
  ⟨fun a u e n => ⟨by rw [upd_ne (ne_of_none e hn)]; exact (x.keep a u e n).1, (x.keep a u e n).2⟩, fun a e => by
    by_cases z : a = D
    · rw [z, upd_same]; simp
    · rw [upd_ne z]; exact x.live a e⟩
theorem Rel.updBar (R : Rel G W Z φ M H) (hz : Z D) : Rel G W Z φ M (upd H D o) := by
  have lv : ∀ a, H a ≠ none → upd H D o a ≠ none := fun a e => by
    by_cases z : a = D
    · rw [z, upd_same]; simp
    · rw [upd_ne z]; exact e
  refine ⟨R.len, R.nd, fun a w => lv a (R.wt a w), fun a z => lv a (R.zt a z), fun i p e => ⟨lv p (R.sep i p e).1, (R.sep i p e).2⟩, fun i p c e1 e2 => ?_⟩
  obtain ⟨w, r⟩ := R.cell i p c e1 e2
  have hp : p ≠ D := fun z => (R.sep i p e1).2 (by rw [z]; exact hz)
  exact ⟨w, r.ext (Ext.updBar (Ext.refl _ _) (.inr hz)) (upd_ne hp)⟩
end
theorem compL_deps {elt : SE} {cond : SB} {tg : Tg} {vs : List Nat} {deps : List (Nat × List D)} {env : Env} {M : Mem} (h : ¬ depsOk M deps = true) : ∀ (r acc : List D), compL elt cond tg vs deps env r acc M = .bad
  | [], _ => by unfold compL; rw [if_neg h]
  | _ :: _, _ => by unfold compL; rw [if_neg h]
theorem lc_read {G : Gm} {fi : SI} {t : Tg} {cond : SB} {fe : SE} {vs : List Nat} {E : WX} (hsl : ∀ j ∈ t.slots, j ∈ vs) (σ : St) (H : Hp) (Q : VK) (hh : rdE G (sComp fi t cond fe vs) E σ H Q) :
    tLc (rdI G fi E) (rdT G t) (rdB G cond FW) (rdE G fe FW) vs σ H Q := by
  obtain ⟨W, Z, φ, env, M, R, Er, h⟩ := hh
  refine ⟨W, Z, φ, env, M, R, Er, (Run.bind h).imp fun J H1 ⟨W1, M1, itm, e, R1, x1, ⟨Gd, Y, w, hG, hY⟩, h2⟩ => ?_⟩
  intro D hD
  have R1' := R1.laid (o := .lst []) hD
  refine lc_it w (fun i H' => ∃ Wi Mi acc us, Rel G Wi (add1 Z D) φ Mi H' ∧ Ext W1 H1 Wi H' ∧ H' D = some (.lst us) ∧ ¬ Bar Wi Z D ∧ RDs G (Bar Wi (add1 Z D)) H' acc us ∧
    Run G Z φ W1 H1 (compL fe cond t vs itm.deps env (itm.items.drop i) acc Mi) Q fun c d H' => E c d σ H') ?_ ?_ ?_ ?_
  · exact ⟨W1, M1, [], [], R1', Ext.laid R1 hD, upd_same, fun z => z.elim (fun z => R1.wt D z hD) fun z => R1.zt D z hD, .nil, h2⟩
  · rintro i H' _ ⟨Wi, Mi, acc, us, Ri, xi, hDi, nb, ra, hr⟩
    refine hG (add1 Z D) Wi [] Mi H' ⟨fun a z => z.imp id fun z => by rw [z]; exact hD, by simpa using Ri, xi, ?_⟩
    by_cases q : depsOk Mi itm.deps = true
    · exact q
    · rw [compL_deps q] at hr; exact hr.elim
  · rintro i x H' H'' hi ⟨Wi, Mi, acc, us, Ri, xi, hDi, nb, ra, hr⟩ hy
    by_cases q : depsOk Mi itm.deps = true
    · have L : Later G Z φ W1 H1 itm.deps (add1 Z D) Wi [] Mi H' := ⟨fun a z => z.imp id fun z => by rw [z]; exact hD, by simpa using Ri, xi, q⟩
      obtain ⟨d, hd, R2, x2, rd⟩ := hY i x H'' _ _ _ _ _ L hi hy
      rw [List.append_nil] at R2
      have ed : itm.items.drop i = d :: itm.items.drop (i + 1) := by
        obtain ⟨hl, e1⟩ := List.getElem?_eq_some_iff.mp hd
        rw [← e1]
        exact List.drop_eq_getElem_cons hl
      rw [ed] at hr
      unfold compL at hr
      rw [if_pos q] at hr
      cases eb : t.bind d (wipeE env vs) with
      | none => rw [eb] at hr; exact hr.elim
      | some env' =>
        rw [eb] at hr
        have L2' : Later G Z φ W1 H1 itm.deps (add1 Z D) Wi [] Mi H'' := ⟨L.bar, by simpa using R2, xi.trans x2, q⟩
        have Erw : EnvR G (Bar Wi (add1 Z D)) φ H'' (wipeE env vs) (wipe σ vs) := ((Er.ext x1.bar).ext L2'.rd).wipe vs
        refine ⟨Wi, add1 Z D, φ, wipeE env vs, Mi, d, env', R2, Erw, rd, eb, fun σ2 Er2 s2 => ⟨?_, ?_⟩⟩
        · have e1 : wipe (wipe σ vs) vs = wipe σ vs := wipe_same (wipe_length _ _) fun j hj => wipe_out hj
          rw [← e1]
          refine wipe_same ?_ fun j hj => s2 j fun z => hj (hsl j z)
          rw [← Er2.len, Tg.len eb, Erw.len]
        · refine ⟨Wi, add1 Z D, φ, env', Mi, R2, Er2, ?_⟩
          dsimp only at hr
          cases ec : cond env' Mi with
          | bad => rw [ec] at hr; exact hr.elim
          | exc _ _ => rw [ec] at hr; exact hr.elim
          | ok b M2 =>
            rw [ec] at hr
            intro W2 H3 b' R3 x3 eb'
            subst eb'
            have hD3 : H3 D = some (.lst us) := (x3.keep D _ (x2.keep D _ hDi fun z => nb (.inl z)).1 (x2.keep D _ hDi fun z => nb (.inl z)).2).1
            have nD3 : ¬ W2 D := (x3.keep D _ (x2.keep D _ hDi fun z => nb (.inl z)).1 (x2.keep D _ hDi fun z => nb (.inl z)).2).2
            have nZ : ¬ Z D := fun z => nb (.inr z)
            cases b with
            | false =>
              rw [if_neg Bool.false_ne_true]
              exact ⟨W2, M2, acc, us, R3, (xi.trans x2).trans x3, hD3, fun z => z.elim nD3 nZ, (ra.ext x2.bar).ext x3.bar, hr⟩
            | true =>
              rw [if_pos rfl]
              refine ⟨W2, add1 Z D, φ, env', M2, R3, Er2.ext x3.bar, ?_⟩
              dsimp only at hr
              cases ee : fe env' M2 with
              | bad => rw [ee] at hr; exact hr.elim
              | exc _ _ => rw [ee] at hr; exact hr.elim
              | ok av M3 =>
                rw [ee] at hr
                intro W3 H4 y R4 x4 vr
                dsimp only at hr
                cases ek : keepD av M3 with
                | none => rw [ek] at hr; exact hr.elim
                | some xM =>
                  obtain ⟨d', M4⟩ := xM
                  rw [ek] at hr
                  dsimp only at hr
                  split at hr
                  · rename_i hlt
                    obtain ⟨W4, R5, l4, rd'⟩ := keep_ok R4 vr.sr ek
                    have hD4 := x4.keep D _ hD3 nD3
                    refine ⟨us, hD4.1, ?_, W4, M4, acc ++ [d'], us ++ [y], R5.updBar (.inr rfl), ?_, upd_same, fun z => z.elim (fun z => hD4.2 (l4 D z)) nZ, ?_, hr⟩
                    · rw [← ra.length]; exact hlt
                    · exact Ext.updNew (((xi.trans x2).trans x3).trans (x4.trans (Ext.less l4))) hD
                    · refine RDs.append ?_ (.cons ?_ .nil)
                      · exact ((ra.ext x2.bar).ext x3.bar).ext (Ext.updBar (x4.trans (Ext.less l4)).bar (.inr (.inr rfl)))
                      · exact rd'.ext (Ext.updBar (Ext.refl _ _) (.inr (.inr rfl)))
                  · exact hr.elim
    · rw [compL_deps q] at hr; exact hr.elim
  · rintro H' ⟨Wi, Mi, acc, us, Ri, xi, hDi, nb, ra, hr⟩
    rw [List.drop_length] at hr
    unfold compL at hr
    split at hr
    · refine hr Wi H' (.ref D) Ri.unbar xi ⟨D, us, rfl, hD, hDi, nb, ra.less fun a z => ?_, Ri⟩
      rcases z with (z | z) | z
      · exact .inl z
      · exact .inr (.inl z)
      · exact .inr (.inr z)
    · exact hr.elim
section
variable {X : Cx} {E : WX} {elt tgE iter : Expr} {ifs : List Expr} {fi : SI} {t : Tg} {cond : SB} {fe : SE} {scope : Scope} {own : List (Str × Nat)} {pos : Pos}
theorem gts_nil {Y : Cx} {E : WX} : PTs Y [] (rdB (gm Y) sYes E) := ⟨fun pins s σ H Q I ⟨W, Z, φ, env, M, R, Er, h⟩ => pts_nil.run pins s σ H Q I (RunB.ok R h)⟩
theorem gts_one {Y : Cx} {E : WX} {c : Expr} {p : SB} (h : GB Y E c p) : PTs Y [c] (rdB (gm Y) p E) := pts_one h
theorem ge_comp (hc : X.calm = true) (hN : X.N.Nodup) (hi : GI X E tgE iter fi) (ok : BlkOk X.N X.env.scope scope own)
    (hg : ∀ (s : Shared) (H : Hp) (C : Addr) (cl : List (Str × Addr)) (fp : List Addr), PG (X.blk s H scope (compEnvC scope cl C X.env) fp) tgE (rdT (gm X) t))
    (ht : ∀ (s : Shared) (H : Hp) (C : Addr) (cl : List (Str × Addr)) (fp : List Addr), PTs (X.blk s H scope (compEnvC scope cl C X.env) fp) ifs (rdB (gm X) cond FW))
    (he : ∀ (s : Shared) (H : Hp) (C : Addr) (cl : List (Str × Addr)) (fp : List Addr), GE (X.blk s H scope (compEnvC scope cl C X.env) fp) FW elt fe)
    (hs : ∀ x, foldedSetIterable iter X.env x = pure x) (hsl : ∀ j ∈ t.slots, j ∈ own.map (·.2)) : GE X E (.ListComp elt [⟨tgE, iter, ifs, 0⟩] scope pos) (sComp fi t cond fe (own.map (·.2))) :=
  PE.imp (pe_lc hc hN hi ok hg ht he hs) fun σ H Q h => lc_read hsl σ H Q h
end
end Mp

namespace Mp
open PySem L2

/-! ## statements -/
inductive Fl where
  | next (e : Env) | ret (v : AV) | brk (e : Env) | cont (e : Env)
abbrev SS := Env → Mem → Out Fl
structure Fin (G : Gm) (Z : Addr → Prop) (φ : List Addr) (W : Addr → Prop) (H : Hp) (M' : Mem) (W' : Addr → Prop) (ψ : List Addr) (H' : Hp) : Prop where
  rel : Rel G W' Z (φ ++ ψ) M' H'
  ext : Ext W H W' H'
  new : ∀ p ∈ ψ, H p = none
def RunS (G : Gm) (Z : Addr → Prop) (φ : List Addr) (W : Addr → Prop) (H : Hp) (n : Nat) (r : Out Fl) (D : Ends) (E : WX) : Prop :=
  match r with
  | .ok (.next e) M' => ∀ W' ψ H' σ', Fin G Z φ W H M' W' ψ H' → EnvR G (Bar W' Z) (φ ++ ψ) H' e σ' → σ'.length = n → D.nx σ' H'
  | .ok (.brk e) M' => ∀ W' ψ H' σ', Fin G Z φ W H M' W' ψ H' → EnvR G (Bar W' Z) (φ ++ ψ) H' e σ' → σ'.length = n → D.bk σ' H'
  | .ok (.cont e) M' => ∀ W' ψ H' σ', Fin G Z φ W H M' W' ψ H' → EnvR G (Bar W' Z) (φ ++ ψ) H' e σ' → σ'.length = n → D.ct σ' H'
  | .ok (.ret av) M' => ∀ W' ψ H' v, Fin G Z φ W H M' W' ψ H' → VR G W' Z (φ ++ ψ) H H' M' av v → D.rt v H'
  | .exc e M' => ∀ W' ψ H' c d σ', Fin G Z φ W H M' W' ψ H' → XR G (Bar W' Z) H' e c d → σ'.length = n → E c d σ' H'
  | .bad => False
def rdS (G : Gm) (f : SS) (E : WX) : TS := fun D σ H => ∃ W Z φ env M, Rel G W Z φ M H ∧ EnvR G (Bar W Z) φ H env σ ∧ RunS G Z φ W H σ.length (f env M) D E
abbrev GS (X : Cx) (E : WX) (st : Stmt) (f : SS) : Prop := PS X st (rdS (gm X) f E)
abbrev GSs (X : Cx) (E : WX) (st : List Stmt) (f : SS) : Prop := PSs X st (rdS (gm X) f E)

section
variable {G : Gm} {W W1 Z : Addr → Prop} {φ ψ : List Addr} {H H1 : Hp} {M M1 : Mem} {env : Env} {σ : St} {D : Ends} {E : WX} {n : Nat}
theorem Fin.refl (R : Rel G W Z φ M H) : Fin G Z φ W H M W [] H := ⟨by simpa using R, Ext.refl _ _, fun _ h => by cases h⟩
theorem Fin.trans {W' : Addr → Prop} {ψ' : List Addr} {H' : Hp} {M' : Mem} (a : Fin G Z φ W H M1 W1 ψ H1) (b : Fin G Z (φ ++ ψ) W1 H1 M' W' ψ' H') : Fin G Z φ W H M' W' (ψ ++ ψ') H' :=
  ⟨by rw [← List.append_assoc]; exact b.rel, a.ext.trans b.ext, fun p hp => (List.mem_append.mp hp).elim (a.new p) fun hp => a.ext.fresh (b.new p hp)⟩
theorem Fin.of {M' : Mem} (R : Rel G W1 Z φ M' H1) (x : Ext W H W1 H1) : Fin G Z φ W H M' W1 [] H1 := ⟨by simpa using R, x, fun _ h => by cases h⟩
theorem VR.back' {W' : Addr → Prop} {M' : Mem} {av : AV} {v : V} {H' : Hp} (h : VR G W' Z φ H1 H' M' av v) (x : ∀ p, H1 p = none → H p = none) : VR G W' Z φ H H' M' av v := by
  cases av with
  | fr xs => obtain ⟨p, vs, e, h0, r⟩ := h; exact ⟨p, vs, e, x p h0, r⟩
  | _ => exact h
theorem RunS.later {r : Out Fl} (h : RunS G Z φ W H n r D E) (x : Fin G Z φ W H M1 W1 ψ H1) : RunS G Z (φ ++ ψ) W1 H1 n r D E := by
  cases r with
  | bad => exact h
  | exc e M' => exact fun W' ψ' H' c d σ' f q l => h W' (ψ ++ ψ') H' c d σ' (x.trans f) q l
  | ok fl M' =>
    cases fl with
    | next e => exact fun W' ψ' H' σ' f q l => h W' (ψ ++ ψ') H' σ' (x.trans f) (by rw [← List.append_assoc]; exact q) l
    | brk e => exact fun W' ψ' H' σ' f q l => h W' (ψ ++ ψ') H' σ' (x.trans f) (by rw [← List.append_assoc]; exact q) l
    | cont e => exact fun W' ψ' H' σ' f q l => h W' (ψ ++ ψ') H' σ' (x.trans f) (by rw [← List.append_assoc]; exact q) l
    | ret av => exact fun W' ψ' H' v f q => h W' (ψ ++ ψ') H' v (x.trans f) (by rw [← List.append_assoc]; exact q.back' fun p e => x.ext.fresh e)
theorem RunS.later0 {r : Out Fl} (h : RunS G Z φ W H n r D E) (x : Ext W H W1 H1) : RunS G Z φ W1 H1 n r D E := by
  cases r with
  | bad => exact h
  | exc e M' => exact fun W' ψ' H' c d σ' f q l => h W' ψ' H' c d σ' ⟨f.rel, x.trans f.ext, fun p hp => x.fresh (f.new p hp)⟩ q l
  | ok fl M' =>
    cases fl with
    | next e => exact fun W' ψ' H' σ' f q l => h W' ψ' H' σ' ⟨f.rel, x.trans f.ext, fun p hp => x.fresh (f.new p hp)⟩ q l
    | brk e => exact fun W' ψ' H' σ' f q l => h W' ψ' H' σ' ⟨f.rel, x.trans f.ext, fun p hp => x.fresh (f.new p hp)⟩ q l
    | cont e => exact fun W' ψ' H' σ' f q l => h W' ψ' H' σ' ⟨f.rel, x.trans f.ext, fun p hp => x.fresh (f.new p hp)⟩ q l
    | ret av => exact fun W' ψ' H' v f q => h W' ψ' H' v ⟨f.rel, x.trans f.ext, fun p hp => x.fresh (f.new p hp)⟩ (q.back' fun p e => x.fresh e)
/-- an expression first, then the rest of a statement -/
theorem RunS.bind {α β : Type} {R : (Addr → Prop) → Hp → Mem → α → β → Prop} {r : Out α} {k : α → Mem → Out Fl} (h : RunS G Z φ W H n (r.bind k) D E) :
    RunG R G Z φ W H r (fun v H1 => ∃ W1 M1 a, r = .ok a M1 ∧ Rel G W1 Z φ M1 H1 ∧ Ext W H W1 H1 ∧ R W1 H1 M1 a v ∧ RunS G Z φ W1 H1 n (k a M1) D E) (fun c d H' => ∀ σ' : St, σ'.length = n → E c d σ' H') := by
  cases r with
  | ok a M' => exact fun W' H' v R1 y z => ⟨W', M', a, rfl, R1, y, z, RunS.later0 h y⟩
  | exc e M' => exact fun W' H' c d R1 y z σ' l => h W' [] H' c d σ' (Fin.of R1 y) z l
  | bad => exact h
theorem RunS.bind0 {α β : Type} {R : (Addr → Prop) → Hp → Mem → α → β → Prop} {r : Out α} {k : α → Mem → Out Fl} (h : RunS G Z φ W H n (r.bind k) D E) :
    RunG R G Z φ W H r (fun v H1 => ∃ W1 M1 a, r = .ok a M1 ∧ Rel G W1 Z φ M1 H1 ∧ Ext W H W1 H1 ∧ R W1 H1 M1 a v ∧ RunS G Z φ W H n (k a M1) D E) (fun c d H' => ∀ σ' : St, σ'.length = n → E c d σ' H') := by
  cases r with
  | ok a M' => exact fun W' H' v R1 y z => ⟨W', M', a, rfl, R1, y, z, h⟩
  | exc e M' => exact fun W' H' c d R1 y z σ' l => h W' [] H' c d σ' (Fin.of R1 y) z l
  | bad => exact h
theorem RunG.imp2 {α β : Type} {R : (Addr → Prop) → Hp → Mem → α → β → Prop} {r : Out α} {Q Q' : β → Hp → Prop} {E E' : XK} (h : RunG R G Z φ W H r Q E) (k : ∀ v H, Q v H → Q' v H) (k2 : ∀ c d H, E c d H → E' c d H) : RunG R G Z φ W H r Q' E' := by
  cases r with
  | ok a M' => exact fun W' H' v R y z => k _ _ (h W' H' v R y z)
  | exc e M' => exact fun W' H' c d R y z => k2 _ _ _ (h W' H' c d R y z)
  | bad => exact h
theorem RunS.next {e : Env} (R : Rel G W Z φ M H) (h : RunS G Z φ W H n (.ok (.next e) M) D E) (q : EnvR G (Bar W Z) φ H e σ) (l : σ.length = n) : D.nx σ H :=
  h W [] H σ (Fin.refl R) (by simpa using q) l
end

def sSkip : SS := fun env M => .ok (.next env) M
def sSeq2 (f g : SS) : SS := fun env M => (f env M).bind fun fl M1 => match fl with
  | .next e => g e M1
  | fl => .ok fl M1
def sRet (f : SE) : SS := fun env M => (f env M).bind fun x M1 => .ok (.ret x) M1
def sRetN : SS := fun _ M => .ok (.ret (.d .non)) M
def sExpr (f : SE) : SS := fun env M => (f env M).bind fun _ M1 => .ok (.next env) M1
def sIfS (c : SB) (f g : SS) : SS := fun env M => (c env M).bind fun b M1 => if b = true then f env M1 else g env M1
/-- a value stored in a name; m: a new list is to be changed later -/
def asgAV (i : Nat) (m : Bool) (x : AV) (env : Env) (M : Mem) : Env × Mem := match x, m with
  | .fr xs, true => (env.set i (some (.cell M.length)), M ++ [some (.l xs)])
  | x, _ => (env.set i (some x.settle), M)
def sAsg (i : Nat) (m : Bool) (f : SE) : SS := fun env M => (f env M).bind fun x M1 => .ok (.next (asgAV i m x env M1).1) (asgAV i m x env M1).2
def sAsgT (t : Tg) (f : SE) : SS := fun env M => (f env M).bind fun x M1 => match x with
  | .d d => match t.bind d env with
    | some e => .ok (.next e) M1
    | none => .bad
  | _ => .bad
def sBrk : SS := fun env M => .ok (.brk env) M
def sCont : SS := fun env M => .ok (.cont env) M

section
variable {G : Gm} {W W1 Z : Addr → Prop} {φ ψ : List Addr} {H H₀ H1 : Hp} {M M1 : Mem} {env : Env} {σ : St} {De : Ends} {E : WX} {n : Nat}
/-- a new list becomes a cell -/
theorem thaw {xs : List D} {v : V} (R : Rel G W Z φ M H) (r : VR G W Z φ H₀ H M (.fr xs) v) (x : ∀ a, H₀ a ≠ none → H a ≠ none) :
    ∃ p, v = .ref p ∧ H₀ p = none ∧ Rel G (add1 W p) Z (φ ++ [p]) (M ++ [some (.l xs)]) H ∧ ∀ a o, H₀ a = some o → ¬ W a → ¬ add1 W p a := by
  obtain ⟨p, vs, rfl, h0, hp, nb, rd, R2⟩ := r
  have hnp : ∀ i : Nat, φ[i]? ≠ some p := fun i e => (R2.sep i p e).2 (.inr rfl)
  have hb : ∀ a, Bar (add1 W p) Z a → Bar W (add1 Z p) a := fun a z => by
    rcases z with (z | z) | z
    · exact .inl z
    · exact .inr (.inr z)
    · exact .inr (.inl z)
  refine ⟨p, rfl, h0, ⟨by simp [R.len], ?_, fun a z => z.elim (R.wt a) fun z => by subst z; rw [hp]; simp, R.zt, fun i q e => ?_, fun i q c e1 e2 => ?_⟩, fun a o e n z => z.elim n fun z => by subst z; rw [h0] at e; cases e⟩
  · rw [List.nodup_append]
    refine ⟨R.nd, by simp, fun a ha b hb e => ?_⟩
    obtain ⟨i, hi⟩ := List.getElem?_of_mem ha
    simp at hb
    subst hb; subst e
    exact hnp i hi
  · by_cases hi : i < φ.length
    · rw [List.getElem?_append_left hi] at e
      exact R.sep i q e
    · rw [List.getElem?_append_right (by omega)] at e
      have hq : q = p := by
        cases h : i - φ.length with
        | zero => rw [h] at e; simpa using e.symm
        | succ k => rw [h] at e; simp at e
      subst hq
      exact ⟨by rw [hp]; simp, fun z => nb (.inr z)⟩
  · by_cases hi : i < φ.length
    · rw [List.getElem?_append_left hi] at e1
      rw [List.getElem?_append_left (by rw [← R.len]; exact hi)] at e2
      obtain ⟨w, r⟩ := R2.cell i q c e1 e2
      exact ⟨.inl w, r.ext (Ext.less hb) rfl⟩
    · rw [List.getElem?_append_right (by omega)] at e1
      rw [List.getElem?_append_right (by rw [← R.len]; omega), ← R.len] at e2
      cases h : i - φ.length with
      | zero =>
        rw [h] at e1 e2
        simp at e1 e2
        subst e1; subst e2
        refine ⟨.inr rfl, vs, hp, rd.less fun a z => ?_⟩
        rcases z with (z | z) | z
        · exact .inl (.inl z)
        · exact .inr z
        · exact .inl (.inr z)
      | succ k => rw [h] at e1; simp at e1
/-- storing a value -/
theorem asg_run {i : Nat} {m : Bool} {x : AV} {v : V} (R : Rel G W1 Z φ M1 H1) (Er : EnvR G (Bar W1 Z) φ H1 env σ) (r : VR G W1 Z φ H H1 M1 x v) (y : Ext W H W1 H1)
    (h : RunS G Z φ W H n (.ok (.next (asgAV i m x env M1).1) (asgAV i m x env M1).2) De E) (l : σ.length = n) (Er0 : EnvR G (Bar W Z) φ H env σ) : De.nx (σ.set i (some v)) H1 := by
  have plain : asgAV i m x env M1 = (env.set i (some x.settle), M1) → De.nx (σ.set i (some v)) H1 := fun e => by
    rw [e] at h
    exact h W1 [] H1 _ (Fin.of R y) (by simpa using Er.set r.sr.settle i) (by simpa using l)
  cases x with
  | fr xs =>
    cases m with
    | false => exact plain rfl
    | true =>
      obtain ⟨p, rfl, h0, R2, hk⟩ := thaw R r y.live
      have x2 : Ext W H (add1 W1 p) H1 := ⟨fun a o e n => ⟨(y.keep a o e n).1, fun z => z.elim (y.keep a o e n).2 fun z => by subst z; rw [h0] at e; cases e⟩, y.live⟩
      refine h (add1 W1 p) [p] H1 _ ⟨R2, x2, fun q hq => by simp at hq; subst hq; exact h0⟩ ?_ (by simpa using l)
      have Er2 := (Er0.ext x2.bar).app [p]
      refine Er2.set (av := .cell M1.length) ⟨p, ?_, rfl⟩ i
      rw [← R.len]
      simp
  | d y => exact plain (by cases m <;> rfl)
  | cell y => exact plain (by cases m <;> rfl)
  | scr y => exact plain (by cases m <;> rfl)
end
section
variable {X : Cx} {E : WX} {e a b : Expr} {f g : SE} {s t : SS} {c : Expr} {p : SB} {st : Stmt} {rest sts sts' : List Stmt} {pos : Pos}
theorem PS.imp {t t' : TS} (h : PS X st t) (k : ∀ D σ H, t' D σ H → t D σ H) : PS X st t' := ⟨fun pins s σ H D I q => h.run pins s σ H D I (k D σ H q)⟩
theorem PSs.imp {t t' : TS} (h : PSs X sts t) (k : ∀ D σ H, t' D σ H → t D σ H) : PSs X sts t' := ⟨fun pins s σ H D I q => h.run pins s σ H D I (k D σ H q)⟩
theorem gs_nil : GSs X E [] sSkip := PSs.imp pss_nil fun D σ H ⟨W, Z, φ, env, M, R, Er, h⟩ => RunS.next R h Er rfl
/-- what a statement's outcome binds -/
theorem seq_run {G : Gm} {W Z : Addr → Prop} {φ : List Addr} {H : Hp} {n : Nat} {r : Out Fl} {D : Ends} {k : SS} (h : RunS G Z φ W H n (r.bind fun fl M1 => match fl with | .next e => k e M1 | fl => .ok fl M1) D E) :
    RunS G Z φ W H n r { D with nx := fun σ H => ∀ _ : σ.length = n, rdS G k E D σ H } E := by
  cases r with
  | bad => exact h
  | exc e M' => exact h
  | ok fl M' =>
    cases fl with
    | next e => exact fun W' ψ H' σ' x q l _ => ⟨W', Z, φ ++ ψ, e, M', x.rel, q, by rw [l]; exact RunS.later h x⟩
    | ret av => exact h
    | brk e => exact h
    | cont e => exact h
theorem RunS.imp {G : Gm} {W Z : Addr → Prop} {φ : List Addr} {H : Hp} {n : Nat} {r : Out Fl} {D D' : Ends} (h : RunS G Z φ W H n r D E) (k1 : ∀ σ H, σ.length = n → D.nx σ H → D'.nx σ H) (k2 : ∀ v H, D.rt v H → D'.rt v H)
    (k3 : ∀ σ H, σ.length = n → D.bk σ H → D'.bk σ H) (k4 : ∀ σ H, σ.length = n → D.ct σ H → D'.ct σ H) : RunS G Z φ W H n r D' E := by
  cases r with
  | bad => exact h
  | exc e M' => exact h
  | ok fl M' =>
    cases fl with
    | next e => exact fun W' ψ H' σ' x q l => k1 _ _ l (h W' ψ H' σ' x q l)
    | ret av => exact fun W' ψ H' v x q => k2 _ _ (h W' ψ H' v x q)
    | brk e => exact fun W' ψ H' σ' x q l => k3 _ _ l (h W' ψ H' σ' x q l)
    | cont e => exact fun W' ψ H' σ' x q l => k4 _ _ l (h W' ψ H' σ' x q l)
theorem gs_cons (h1 : GS X E st s) (h2 : GSs X E rest t) : GSs X E (st :: rest) (sSeq2 s t) :=
  PSs.imp (pss_cons h1 h2) fun D σ H ⟨W, Z, φ, env, M, R, Er, h⟩ =>
    ⟨W, Z, φ, env, M, R, Er, (seq_run (k := t) h).imp (fun σ' H' l q => q l) (fun _ _ q => q) (fun _ _ _ q => q) (fun _ _ _ q => q)⟩
theorem gs_ret (he : GE X E e f) : GS X E (.Return (some e) pos) (sRet f) :=
  PS.imp (ps_ret he) fun D σ H ⟨W, Z, φ, env, M, R, Er, h⟩ => ⟨W, Z, φ, env, M, R, Er,
    (RunS.bind0 h).imp2 (fun v H1 ⟨W1, M1, x, _, R1, x1, r1, h2⟩ => h2 W1 [] H1 v (Fin.of R1 x1) (by simpa using r1)) (fun c d H' q => q σ rfl)⟩
theorem gs_retN : GS X E (.Return none pos) sRetN :=
  PS.imp ps_retN fun D σ H ⟨W, Z, φ, env, M, R, Er, h⟩ => h W [] H .non (Fin.refl R) (by show RD _ _ _ _ _; exact .non)
theorem gs_expr (he : GE X E e f) (hs : swapsWith e none pos.line X.env = pure false) : GS X E (.Expr e pos) (sExpr f) :=
  PS.imp (ps_expr he hs) fun D σ H ⟨W, Z, φ, env, M, R, Er, h⟩ => ⟨W, Z, φ, env, M, R, Er,
    (RunS.bind h).imp2 (fun v H1 ⟨W1, M1, x, _, R1, x1, r1, h2⟩ => RunS.next R1 h2 (Er.ext x1.bar) rfl) (fun c d H' q => q σ rfl)⟩
theorem gs_if (hc : GB X E c p) (ha : GSs X E sts s) (hb : GSs X E sts' t) : GS X E (.If c sts sts' pos) (sIfS p s t) :=
  PS.imp (ps_if hc ha hb) fun D σ H ⟨W, Z, φ, env, M, R, Er, h⟩ => ⟨W, Z, φ, env, M, R, Er,
    (RunS.bind h).imp2 (fun v H1 ⟨W1, M1, x, _, R1, x1, r1, h2⟩ => by
      subst r1
      cases x with
      | true => exact ⟨W1, Z, φ, env, M1, R1, Er.ext x1.bar, h2⟩
      | false => exact ⟨W1, Z, φ, env, M1, R1, Er.ext x1.bar, h2⟩) (fun c d H' q => q σ rfl)⟩
/-- from an expression's value to the name -/
theorem asg_read {G : Gm} {i : Nat} {m : Bool} (D : Ends) (σ : St) (H : Hp) : rdS G (sAsg i m f) E D σ H → tAsg (rdE G f E) (gName i) D σ H := fun ⟨W, Z, φ, env, M, R, Er, h⟩ => ⟨W, Z, φ, env, M, R, Er,
    (RunS.bind0 h).imp2 (fun v H1 ⟨W1, M1, x, _, R1, x1, r1, h2⟩ => asg_run R1 (Er.ext x1.bar) r1 x1 h2 rfl Er) (fun c d H' q => q σ rfl)⟩
theorem gs_asg {i : Nat} {x : Str} {m : Bool} {pos' : Pos} (hN : X.N.Nodup) (hi : X.N[i]? = some x) (hx : Loc X.env.scope x) (he : GE X E e f) (hs : swapsWith e (some (.Name x pos')) pos.line X.env = pure false)
    (hf : X.fn x = true ∨ X.env.scope.names.lookup x = some .local) : GS X E (.Assign [.Name x pos'] e pos) (sAsg i m f) :=
  PS.imp (ps_set hN hi hx he hs hf) fun D σ H h => asg_read D σ H h
theorem gs_asgT {tg : Expr} {t : Tg} (he : GE X E e f) (hg : PG X tg (rdT (gm X) t)) (hs : swapsWithSole [tg] e pos.line X.env = pure false) (hw : swappedStores [tg] e X.env = pure none) (h1 : (assignEach [tg] X.env).map (·.2) = [assign tg X.env]) :
    GS X E (.Assign [tg] e pos) (sAsgT t f) :=
  PS.imp (ps_asg he hg hs hw h1) fun D σ H ⟨W, Z, φ, env, M, R, Er, h⟩ => ⟨W, Z, φ, env, M, R, Er,
    (RunS.bind h).imp2 (fun v H1 ⟨W1, M1, x, _, R1, x1, r1, h2⟩ => by
      cases x with
      | d y =>
        dsimp only at h2
        cases e1 : t.bind y env with
        | none => rw [e1] at h2; exact h2.elim
        | some env' =>
          rw [e1] at h2
          exact ⟨W1, Z, φ, env, M1, y, env', R1, Er.ext x1.bar, r1, e1, fun σ' Er' _ => RunS.next R1 h2 Er' (by rw [← Er'.len, Tg.len e1, Er.len])⟩
      | _ => exact h2.elim) (fun c d H' q => q σ rfl)⟩
theorem gs_brk : GS X E (.Break pos) sBrk := PS.imp ps_break fun D σ H ⟨W, Z, φ, env, M, R, Er, h⟩ => h W [] H σ (Fin.refl R) (by simpa using Er) rfl
theorem gs_cont : GS X E (.Continue pos) sCont := PS.imp ps_continue fun D σ H ⟨W, Z, φ, env, M, R, Er, h⟩ => h W [] H σ (Fin.refl R) (by simpa using Er) rfl
theorem gs_pass : GS X E (.Pass pos) sSkip := PS.imp ps_pass fun D σ H ⟨W, Z, φ, env, M, R, Er, h⟩ => RunS.next R h Er rfl
end
end Mp

namespace Mp
open PySem L2

/-! ## loops -/
def forL (body : SS) (tg : Tg) (deps : List (Nat × List D)) : List D → Env → Mem → Out Fl
  | [], env, M => if depsOk M deps = true then .ok (.next env) M else .bad
  | d :: r, env, M => if depsOk M deps = true then
      match tg.bind d env with
      | none => .bad
      | some e => (body e M).bind fun fl M' => match fl with
        | .next e' => forL body tg deps r e' M'
        | .cont e' => forL body tg deps r e' M'
        | .brk e' => .ok (.next e') M'
        | .ret v => .ok (.ret v) M'
    else .bad
def sFor (it : SI) (tg : Tg) (body : SS) : SS := fun env M => (it env M).bind fun itm M1 => forL body tg itm.deps itm.items env M1
def whileF (c : SB) (body : SS) : Nat → Env → Mem → Out Fl
  | 0, _, _ => .bad
  | n + 1, env, M => (c env M).bind fun b M1 => if b = true then
      (body env M1).bind fun fl M' => match fl with
        | .next e' => whileF c body n e' M'
        | .cont e' => whileF c body n e' M'
        | .brk e' => .ok (.next e') M'
        | .ret v => .ok (.ret v) M'
    else .ok (.next env) M1
@[irreducible] def bigF : Nat := 2 ^ 4096
def sWhile (c : SB) (body : SS) : SS := fun env M => whileF c body bigF env M

theorem forL_deps {body : SS} {tg : Tg} {deps : List (Nat × List D)} {M : Mem} (h : ¬ depsOk M deps = true) : ∀ (r : List D) (env : Env), forL body tg deps r env M = .bad
  | [], _ => by unfold forL; rw [if_neg h]
  | _ :: _, _ => by unfold forL; rw [if_neg h]
section
variable {X : Cx} {E : WX} {tg iter c : Expr} {body : List Stmt} {fi : SI} {t : Tg} {s : SS} {p : SB} {pos : Pos}
theorem gs_for (hp : PassesOwn (model X.prog X.w) X.A X.env X.xe) (hc : X.calm = true) (hi : GI X E tg iter fi) (hg : PG X tg (rdT (gm X) t)) (hb : GSs X E body s) (hs : ∀ x, foldedSetIterable iter X.env x = pure x) :
    GS X E (.For tg iter body [] pos) (sFor fi t s) :=
  PS.imp (ps_for hp hc hi hg hb hs) fun De σ H ⟨W, Z, φ, env, M, R, Er, h⟩ => ⟨W, Z, φ, env, M, R, Er, (RunS.bind h).imp2 (fun J H1 ⟨W1, M1, itm, e, R1, x1, ⟨Gd, Y, w, hG, hY⟩, h2⟩ => by
    refine for_it w (fun i σ' H' => ∃ Wi ψ Mi env', Rel (gm X) Wi Z (φ ++ ψ) Mi H' ∧ EnvR (gm X) (Bar Wi Z) (φ ++ ψ) H' env' σ' ∧ σ'.length = σ.length ∧ Ext W1 H1 Wi H' ∧ (∀ p ∈ ψ, H1 p = none) ∧
      RunS (gm X) Z φ W1 H1 σ.length (forL s t itm.deps (itm.items.drop i) env' Mi) De E) ?_ ?_ ?_ ?_
    · exact ⟨W1, [], M1, env, by simpa using R1, by simpa using Er.ext x1.bar, rfl, Ext.refl _ _, (fun _ h => by cases h), h2⟩
    · rintro i σ' H' _ ⟨Wi, ψ, Mi, env', Ri, Ei, l, xi, nw, hr⟩
      refine hG Z Wi ψ Mi H' ⟨fun a z => .inl z, Ri, xi, ?_⟩
      by_cases q : depsOk Mi itm.deps = true
      · exact q
      · rw [forL_deps q] at hr; exact hr.elim
    · rintro i x σ' H' H'' hi ⟨Wi, ψ, Mi, env', Ri, Ei, l, xi, nw, hr⟩ hy
      by_cases q : depsOk Mi itm.deps = true
      · obtain ⟨d, hd, R2, x2, rd⟩ := hY i x H'' Z Wi ψ Mi H' ⟨fun a z => .inl z, Ri, xi, q⟩ hi hy
        have ed : itm.items.drop i = d :: itm.items.drop (i + 1) := by
          obtain ⟨hl, e1⟩ := List.getElem?_eq_some_iff.mp hd
          rw [← e1]
          exact List.drop_eq_getElem_cons hl
        rw [ed] at hr
        unfold forL at hr
        rw [if_pos q] at hr
        cases eb : t.bind d env' with
        | none => rw [eb] at hr; exact hr.elim
        | some e2 =>
          rw [eb] at hr
          refine ⟨Wi, Z, φ ++ ψ, env', Mi, d, e2, R2, Ei.ext x2.bar, rd, eb, fun σ2 Er2 s2 => ⟨Wi, Z, φ ++ ψ, e2, Mi, R2, Er2, ?_⟩⟩
          have l2 : σ2.length = σ.length := by rw [← Er2.len, Tg.len eb, Ei.len, l]
          have F0 : Fin (gm X) Z φ W1 H1 Mi Wi ψ H'' := ⟨R2, xi.trans x2, nw⟩
          rw [l2]
          dsimp only at hr
          revert hr
          cases s e2 Mi with
          | bad => exact fun hr => hr
          | exc x M' => exact fun hr => RunS.later hr F0
          | ok fl M' =>
            intro hr
            have go : ∀ e', RunS (gm X) Z φ W1 H1 σ.length (forL s t itm.deps (itm.items.drop (i + 1)) e' M') De E → ∀ W' ψ' H3 σ3, Fin (gm X) Z (φ ++ ψ) Wi H'' M' W' ψ' H3 → EnvR (gm X) (Bar W' Z) (φ ++ ψ ++ ψ') H3 e' σ3 → σ3.length = σ.length →
                ∃ Wi ψ Mi env', Rel (gm X) Wi Z (φ ++ ψ) Mi H3 ∧ EnvR (gm X) (Bar Wi Z) (φ ++ ψ) H3 env' σ3 ∧ σ3.length = σ.length ∧ Ext W1 H1 Wi H3 ∧ (∀ p ∈ ψ, H1 p = none) ∧
                  RunS (gm X) Z φ W1 H1 σ.length (forL s t itm.deps (itm.items.drop (i + 1)) env' Mi) De E := fun e' hq W' ψ' H3 σ3 f q l3 => by
              have f2 := F0.trans f
              exact ⟨W', ψ ++ ψ', M', e', f2.rel, by rw [← List.append_assoc]; exact q, l3, f2.ext, f2.new, hq⟩
            cases fl with
            | next e' => exact go e' hr
            | cont e' => exact go e' hr
            | ret v => exact fun W' ψ' H3 v' f q => RunS.later hr F0 W' ψ' H3 v' f q
            | brk e' => exact fun W' ψ' H3 σ3 f q l3 => RunS.later hr F0 W' ψ' H3 σ3 f q l3
      · rw [forL_deps q] at hr; exact hr.elim
    · rintro σ' H' ⟨Wi, ψ, Mi, env', Ri, Ei, l, xi, nw, hr⟩
      rw [List.drop_length] at hr
      unfold forL at hr
      split at hr
      · exact hr Wi ψ H' σ' ⟨Ri, xi, nw⟩ Ei l
      · exact hr.elim) (fun c d H' q => q σ rfl)⟩
theorem gs_while (hp : PassesOwn (model X.prog X.w) X.A X.env X.xe) (hc : GB X E c p) (hb : GSs X E body s) : GS X E (.While c body [] pos) (sWhile p s) :=
  PS.imp (ps_while hp hc hb) fun De σ H ⟨W, Z, φ, env, M, R, Er, h⟩ => by
    refine ⟨fun m σ' H' => ∃ Wi ψ Mi env', Rel (gm X) Wi Z (φ ++ ψ) Mi H' ∧ EnvR (gm X) (Bar Wi Z) (φ ++ ψ) H' env' σ' ∧ σ'.length = σ.length ∧ Ext W H Wi H' ∧ (∀ p ∈ ψ, H p = none) ∧
      RunS (gm X) Z φ W H σ.length (whileF p s m env' Mi) De E, ⟨bigF, W, [], M, env, by simpa using R, by simpa using Er, rfl, Ext.refl _ _, (fun _ h => by cases h), h⟩, ?_⟩
    rintro m σ' H' ⟨Wi, ψ, Mi, env', Ri, Ei, l, xi, nw, hr⟩
    cases m with
    | zero => exact hr.elim
    | succ m =>
      unfold whileF at hr
      have F0 : Fin (gm X) Z φ W H Mi Wi ψ H' := ⟨Ri, xi, nw⟩
      refine ⟨Wi, Z, φ ++ ψ, env', Mi, Ri, Ei, (RunS.bind (RunS.later hr F0)).imp2 (fun b H1 ⟨W1, M1, b', e, R1, x1, r1, h2⟩ => ?_) (fun c d H' q => q σ' l)⟩
      subst r1
      have F1 : Fin (gm X) Z φ W H M1 W1 ψ H1 := ⟨R1, xi.trans x1, nw⟩
      cases b' with
      | false =>
        rw [if_neg Bool.false_ne_true] at h2 ⊢
        exact RunS.next R1 h2 (Ei.ext x1.bar) l
      | true =>
        rw [if_pos rfl] at h2 ⊢
        rw [e, Out.bind_ok, if_pos rfl] at hr
        refine ⟨fun σ3 H3 => ∃ Wi ψ Mi env', Rel (gm X) Wi Z (φ ++ ψ) Mi H3 ∧ EnvR (gm X) (Bar Wi Z) (φ ++ ψ) H3 env' σ3 ∧ σ3.length = σ.length ∧ Ext W H Wi H3 ∧ (∀ p ∈ ψ, H p = none) ∧
          RunS (gm X) Z φ W H σ.length (whileF p s m env' Mi) De E, fun σ3 H3 q => ⟨m, Nat.lt_succ_self m, q⟩, W1, Z, φ ++ ψ, env', M1, R1, Ei.ext x1.bar, ?_⟩
        rw [l]
        revert hr
        cases s env' M1 with
        | bad => exact fun hr => hr
        | exc x M' => exact fun hr => RunS.later hr F1
        | ok fl M' =>
          intro hr
          have go : ∀ e', RunS (gm X) Z φ W H σ.length (whileF p s m e' M') De E → ∀ W' ψ' H3 σ3, Fin (gm X) Z (φ ++ ψ) W1 H1 M' W' ψ' H3 → EnvR (gm X) (Bar W' Z) (φ ++ ψ ++ ψ') H3 e' σ3 → σ3.length = σ.length →
              ∃ Wi ψ Mi env', Rel (gm X) Wi Z (φ ++ ψ) Mi H3 ∧ EnvR (gm X) (Bar Wi Z) (φ ++ ψ) H3 env' σ3 ∧ σ3.length = σ.length ∧ Ext W H Wi H3 ∧ (∀ p ∈ ψ, H p = none) ∧
                RunS (gm X) Z φ W H σ.length (whileF p s m env' Mi) De E := fun e' hq W' ψ' H3 σ3 f q l3 => by
            have f2 := F1.trans f
            exact ⟨W', ψ ++ ψ', M', e', f2.rel, by rw [← List.append_assoc]; exact q, l3, f2.ext, f2.new, hq⟩
          cases fl with
          | next e' => exact go e' hr
          | cont e' => exact go e' hr
          | ret v => exact fun W' ψ' H3 v' f q => RunS.later hr F1 W' ψ' H3 v' f q
          | brk e' => exact fun W' ψ' H3 σ3 f q l3 => RunS.later hr F1 W' ψ' H3 σ3 f q l3
end
end Mp

namespace Mp
open PySem L2

/-! ## stores into lists -/
section
variable {G : Gm} {W W1 Z : Addr → Prop} {φ : List Addr} {H H1 : Hp} {M M1 : Mem}
/-- a cell's list is changed -/
theorem Rel.setCell (R : Rel G W Z φ M H) {i : Nat} {p : Addr} {c : MC} {ys : List D} {us : List V} (e : φ[i]? = some p) (e2 : M[i]? = some (some c)) (rd : RDs G (Bar W Z) H ys us) :
    Rel G W Z φ (M.set i (some (.l ys))) (upd H p (.lst us)) ∧ Ext W H W (upd H p (.lst us)) := by
  obtain ⟨wp, _⟩ := R.cell i p c e e2
  have lv : ∀ a, H a ≠ none → upd H p (.lst us) a ≠ none := fun a h => by
    by_cases z : a = p
    · rw [z, upd_same]; simp
    · rw [upd_ne z]; exact h
  have x : Ext W H W (upd H p (.lst us)) := ⟨fun a o h n => ⟨by rw [upd_ne fun z => n (by rw [z]; exact wp)]; exact h, n⟩, lv⟩
  have hi : i < M.length := (List.getElem?_eq_some_iff.mp e2).1
  refine ⟨⟨by rw [List.length_set]; exact R.len, R.nd, fun a w => lv a (R.wt a w), fun a z => lv a (R.zt a z), fun j q e3 => ⟨lv q (R.sep j q e3).1, (R.sep j q e3).2⟩, fun j q c' e3 e4 => ?_⟩, x⟩
  by_cases hj : j = i
  · subst hj
    rw [List.getElem?_set_self hi] at e4
    cases e4
    rw [e] at e3; cases e3
    exact ⟨wp, us, upd_same, rd.ext x.bar⟩
  · rw [List.getElem?_set_ne (Ne.symm hj)] at e4
    obtain ⟨w, r⟩ := R.cell j q c' e3 e4
    have hq : q ≠ p := fun z => by
      subst z
      obtain ⟨l1, g1⟩ := List.getElem?_eq_some_iff.mp e3
      obtain ⟨l2, g2⟩ := List.getElem?_eq_some_iff.mp e
      exact hj ((List.getElem_inj R.nd).mp (g1.trans g2.symm))
    exact ⟨w, r.ext x.bar (upd_ne hq)⟩
end
/-- a cell that is alive -/
def cellOf? (M : Mem) : AV → Option (Nat × List D)
  | .cell i => match M[i]? with
    | some (some (.l xs)) => some (i, xs)
    | _ => none
  | _ => none
theorem cellOf_ok {M : Mem} {x : AV} {i : Nat} {xs : List D} (h : cellOf? M x = some (i, xs)) : x = .cell i ∧ M[i]? = some (some (.l xs)) := by
  unfold cellOf? at h
  split at h
  · split at h
    · cases h; exact ⟨rfl, by assumption⟩
    · cases h
  · cases h
/-- o[i] = v -/
def sSetI (fo fi fv : SE) : SS := fun env M => (fv env M).bind fun v M1 => (fo env M1).bind fun o M2 => (fi env M2).bind fun k M3 => match keepD v.settle M3, k with
  | some (d, M4), .d (.int k) => match cellOf? M4 o with
    | some (c, xs) => match ixN xs.length k with
      | some j => .ok (.next env) (M4.set c (some (.l (xs.set j d))))
      | none => .bad
    | none => .bad
  | _, _ => .bad
/-- methods that change a list: what comes, what is left -/
def mAppend : List D → List AV → Mem → Option (D × List D × Mem)
  | xs, [a], M => match keepD a M with
    | some (d, M1) => if xs.length < sizeLine then some (.non, xs ++ [d], M1) else none
    | none => none
  | _, _, _ => none
def mExtend : List D → List AV → Mem → Option (D × List D × Mem)
  | xs, [a], M => match lstOf M a, a with
    | some zs, .scr _ => none
    | some zs, _ => if xs.length + zs.length ≤ sizeLine then some (.non, xs ++ zs, M) else none
    | none, _ => none
  | _, _, _ => none
def mPop : List D → List AV → Mem → Option (D × List D × Mem)
  | xs, [], M => match xs[xs.length - 1]? with
    | some d => some (d, xs.dropLast, M)
    | none => none
  | xs, [.d (.int i)], M => if -(2 ^ 63) ≤ i ∧ i < 2 ^ 63 then match seqIndex? i xs.length with
      | some k => match xs[k]? with
        | some d => some (d, xs.eraseIdx k, M)
        | none => none
      | none => none
    else none
  | _, _, _ => none
def sMeth (m : List D → List AV → Mem → Option (D × List D × Mem)) (fo : SE) (l : SL) : SE := fun env M => (fo env M).bind fun o M1 => match cellOf? M1 o with
  | none => .bad
  | some _ => (l env M1).bind fun avs M2 => match cellOf? M2 o with
    | none => .bad
    | some (_, xs) => match m xs avs M2 with
      | none => .bad
      | some (d, ys, M3) => match cellOf? M3 o with
        | none => .bad
        | some (c, _) => .ok (.d d) (M3.set c (some (.l ys)))
section
variable {X : Cx} {E : WX} {a o i v e : Expr} {es : List Expr} {f fo fi fv fe g : SE} {l : SL} {pos tpos : Pos}
theorem get_list {p : Addr} : PGet X (rIxL X.K) := by
  intro pins s σ H o i ov iv Q I ro ri h
  obtain ⟨p, xs, k, z, rfl, rfl, hq, he, q⟩ := h
  cases ro
  obtain ⟨t, rfl⟩ := ri
  obtain ⟨its, r, pl, hz⟩ := I.list hq
  obtain ⟨j, h1, h2, h3, h4, h5⟩ := atI_get he
  obtain ⟨w, ew, rw'⟩ := r.get h2
  have hl := r.length
  have hn := line63
  have fin : EP X pins σ Q w s := ⟨z, H, I, rw', q⟩
  by_cases h0 : 0 ≤ k
  · have hj : k.toNat = j := by
      rw [seqIndex_of h0 h5] at h1
      exact Option.some.inj h1
    exact wpAny_getItem_list pl.isList h0 (by omega) (by rw [hj]; simpa using ew) fin
  · have hj : (k + (its.toArray.size : Int)).toNat = j := by
      rw [seqIndex_neg (by omega) h4] at h1
      rw [List.size_toArray, ← hl]
      exact Option.some.inj h1
    exact wpAny_getItem_list_neg pl.isList (by omega) (by rw [List.size_toArray] <;> omega) (by omega) (by rw [hj]; simpa using ew) fin
theorem gs_setI (hv : GE X E v fv) (ho : GE X E o fo) (hi : GE X E i fi) (hs : swapsWithSole [.Subscript o i tpos] v pos.line X.env = pure false) (hw : swappedStores [.Subscript o i tpos] v X.env = pure none)
    (h1 : (assignEach [.Subscript o i tpos] X.env).map (·.2) = [assign (.Subscript o i tpos) X.env])
    (hg : ∀ {to ti : TE}, PE X o to → PE X i ti → PG X (.Subscript o i tpos) (gSub to ti rSetL)) : GS X E (.Assign [.Subscript o i tpos] v pos) (sSetI fo fi fv) :=
  PS.imp (ps_asg hv (hg ho hi) hs hw h1) fun De σ H ⟨W, Z, φ, env, M, R, Er, h⟩ => ⟨W, Z, φ, env, M, R, Er,
    (RunS.bind h).imp2 (fun x H1 ⟨W1, M1, x', _, R1, x1, r1, h2⟩ => ⟨W1, Z, φ, env, M1, R1, Er.ext x1.bar,
      (RunS.bind h2).imp2 (fun y H2 ⟨W2, M2, y', _, R2, x2, r2, h3⟩ => ⟨W2, Z, φ, env, M2, R2, (Er.ext x1.bar).ext x2.bar,
        (RunS.bind h3).imp2 (fun z H3 ⟨W3, M3, z', _, R3, x3, r3, h4⟩ => by
          have rx := ((r1.sr.settle).ext x2.bar).ext x3.bar
          cases ek : keepD x'.settle M3 with
          | none => rw [ek] at h4; exact h4.elim
          | some dM =>
            obtain ⟨d, M4⟩ := dM
            rw [ek] at h4
            cases z' with
            | d zz =>
              cases zz with
              | int k =>
                cases r3
                dsimp only at h4
                cases ec : cellOf? M4 y' with
                | none => rw [ec] at h4; exact h4.elim
                | some cx =>
                  obtain ⟨c, xs⟩ := cx
                  rw [ec] at h4
                  dsimp only at h4
                  cases ej : ixN xs.length k with
                  | none => rw [ej] at h4; exact h4.elim
                  | some j =>
                    rw [ej] at h4
                    obtain ⟨rfl, em⟩ := cellOf_ok ec
                    obtain ⟨W4, R4, l4, rd⟩ := keep_ok R3 rx ek
                    obtain ⟨p, ep, rfl⟩ := r2.sr
                    obtain ⟨_, vs, hp, rvs⟩ := R4.cell c p _ ep em
                    obtain ⟨R5, x5⟩ := R4.setCell ep em (rvs.set rd j)
                    refine ⟨p, vs, k, j, rfl, rfl, hp, by rw [← rvs.length]; exact ej, ?_⟩
                    exact h4 W4 [] _ σ ⟨by simpa using R5, (Ext.less l4).trans x5, fun _ z => by cases z⟩ (by simpa using ((((Er.ext x1.bar).ext x2.bar).ext x3.bar).ext (Ext.bar (Ext.less l4))).ext x5.bar) rfl
              | _ => exact h4.elim
            | _ => exact h4.elim) (fun c d H' q => q σ rfl)⟩) (fun c d H' q => q σ rfl)⟩) (fun c d H' q => q σ rfl)⟩
/-- a method with arguments -/
theorem meth_run {m : List D → List AV → Mem → Option (D × List D × Mem)} {r : V → List V → Hp → VK → Prop} {G : Gm} {W Z : Addr → Prop} {φ : List Addr} {H : Hp} {M : Mem} {Q : VK} {EE : XK} {o : AV} {avs : List AV} {v : V} {vs : List V}
    (R : Rel G W Z φ M H) (ro : SR G (Bar W Z) φ H o v) (ra : SRs G (Bar W Z) φ H avs vs)
    (hm : ∀ xs d ys M', m xs avs M = some (d, ys, M') → ∀ p us, H p = some (.lst us) → RDs G (Bar W Z) H xs us → ∃ W' y ws, Rel G W' Z φ M' H ∧ (∀ a, W' a → W a) ∧ RD G (Bar W' Z) H d y ∧ RDs G (Bar W' Z) H ys ws ∧ ∀ Q : VK, Q y (upd H p (.lst ws)) → r (.ref p) vs H Q)
    (h : Run G Z φ W H (match cellOf? M o with | none => .bad | some (_, xs) => match m xs avs M with | none => .bad | some (d, ys, M3) => match cellOf? M3 o with | none => .bad | some (c, _) => .ok (.d d) (M3.set c (some (.l ys)))) Q EE) : r v vs H Q := by
  cases ec : cellOf? M o with
  | none => rw [ec] at h; exact h.elim
  | some cx =>
    obtain ⟨c, xs⟩ := cx
    rw [ec] at h
    dsimp only at h
    cases em : m xs avs M with
    | none => rw [em] at h; exact h.elim
    | some t =>
      obtain ⟨d, ys, M3⟩ := t
      rw [em] at h
      dsimp only at h
      cases ec2 : cellOf? M3 o with
      | none => rw [ec2] at h; exact h.elim
      | some cy =>
        obtain ⟨c2, xs2⟩ := cy
        rw [ec2] at h
        obtain ⟨rfl, e1⟩ := cellOf_ok ec
        obtain ⟨e3, e2⟩ := cellOf_ok ec2
        cases e3
        obtain ⟨p, ep, rfl⟩ := ro
        obtain ⟨_, us, hp, rus⟩ := R.cell c p _ ep e1
        obtain ⟨W', y, ws, R', l', rd, rds, k⟩ := hm xs d ys M3 em p us hp rus
        obtain ⟨R5, x5⟩ := R'.setCell ep e2 rds
        exact k Q (h W' _ y R5 ((Ext.less l').trans x5) (rd.ext x5.bar))
theorem tyV_list {K : PySem.W.Frag} {p : Addr} {us : List V} {H : Hp} (h : H p = some (.lst us)) : tyV K "list" (.ref p) H := .inl ⟨rfl, _, .of h⟩
theorem ge_meth {m : List D → List AV → Mem → Option (D × List D × Mem)} {r : V → List V → Hp → VK → Prop} (ho : GE X E o fo) (hl : GL X E es l)
    (hp : ∀ {to : TE} {t : TA}, PE X o to → PA X es t → PE X e (tBM X.K "list" r to t))
    (hm : ∀ (W Z : Addr → Prop) (φ : List Addr) (M : Mem) (H : Hp) avs vs, Rel (gm X) W Z φ M H → SRs (gm X) (Bar W Z) φ H avs vs → ∀ xs d ys M', m xs avs M = some (d, ys, M') → ∀ p us, H p = some (.lst us) → RDs (gm X) (Bar W Z) H xs us →
      ∃ W' y ws, Rel (gm X) W' Z φ M' H ∧ (∀ a, W' a → W a) ∧ RD (gm X) (Bar W' Z) H d y ∧ RDs (gm X) (Bar W' Z) H ys ws ∧ ∀ Q : VK, Q y (upd H p (.lst ws)) → r (.ref p) vs H Q) : GE X E e (sMeth m fo l) :=
  PE.imp (hp ho hl) fun σ H Q ⟨W, Z, φ, env, M, R, Er, h⟩ => ⟨W, Z, φ, env, M, R, Er, (Run.bind h).imp fun v H1 ⟨W1, M1, x, _, R1, x1, r1, h2⟩ => by
    cases ec : cellOf? M1 x with
    | none => rw [ec] at h2; exact h2.elim
    | some cx =>
      obtain ⟨c, xs⟩ := cx
      rw [ec] at h2
      dsimp only at h2
      obtain ⟨rfl, e1⟩ := cellOf_ok ec
      obtain ⟨p, ep, rfl⟩ := id r1.sr
      obtain ⟨_, us, hp, rus⟩ := R1.cell c p _ ep e1
      refine ⟨tyV_list hp, W1, Z, φ, env, M1, R1, Er.ext x1.bar, (Run.bind h2).imp fun vs H2 ⟨W2, M2, avs, _, R2, x2, r2, h3⟩ => ?_⟩
      exact meth_run R2 (r1.sr.ext x2.bar) r2 (hm W2 Z φ M2 H2 avs vs R2 r2) h3⟩
theorem append_ok {G : Gm} (W Z : Addr → Prop) (φ : List Addr) (M : Mem) (H : Hp) (avs : List AV) (vs : List V) (R : Rel G W Z φ M H) (ra : SRs G (Bar W Z) φ H avs vs) (xs : List D) (d : D) (ys : List D) (M' : Mem) (h : mAppend xs avs M = some (d, ys, M')) (p : Addr) (us : List V)
    (hp : H p = some (.lst us)) (rus : RDs G (Bar W Z) H xs us) : ∃ W' y ws, Rel G W' Z φ M' H ∧ (∀ a, W' a → W a) ∧ RD G (Bar W' Z) H d y ∧ RDs G (Bar W' Z) H ys ws ∧ ∀ Q : VK, Q y (upd H p (.lst ws)) → rAppend (.ref p) vs H Q := by
  unfold mAppend at h
  split at h
  · obtain ⟨v, rfl, r1⟩ := ra.one
    split at h
    · rename_i d1 M1 ek
      split at h
      · rename_i hlt
        cases h
        obtain ⟨W', R', l', rd⟩ := keep_ok R r1 ek
        refine ⟨W', .non, us ++ [v], R', l', .non, (rus.ext (Ext.bar (Ext.less l'))).append (.cons rd .nil), fun Q q => ⟨p, us, v, rfl, rfl, hp, by rw [← rus.length]; exact hlt, q⟩⟩
      · cases h
    · cases h
  · cases h
theorem extend_ok {G : Gm} (W Z : Addr → Prop) (φ : List Addr) (M : Mem) (H : Hp) (avs : List AV) (vs : List V) (R : Rel G W Z φ M H) (ra : SRs G (Bar W Z) φ H avs vs) (xs : List D) (d : D) (ys : List D) (M' : Mem) (h : mExtend xs avs M = some (d, ys, M')) (p : Addr) (us : List V)
    (hp : H p = some (.lst us)) (rus : RDs G (Bar W Z) H xs us) : ∃ W' y ws, Rel G W' Z φ M' H ∧ (∀ a, W' a → W a) ∧ RD G (Bar W' Z) H d y ∧ RDs G (Bar W' Z) H ys ws ∧ ∀ Q : VK, Q y (upd H p (.lst ws)) → rExtend (.ref p) vs H Q := by
  unfold mExtend at h
  split at h
  · obtain ⟨v, rfl, r1⟩ := ra.one
    split at h
    · cases h
    · rename_i zs hn el
      split at h
      · rename_i hlt
        cases h
        obtain ⟨q, ws, rfl, h1, h2, h3⟩ := R.lst r1 el
        refine ⟨W, .non, us ++ ws, R, fun _ z => z, .non, rus.append h2, fun Q k => ⟨p, q, us, ws, rfl, rfl, hp, h3 fun ns e => ?_, by rw [← rus.length, ← h2.length]; exact hlt, k⟩⟩
        exact hn ns e
      · cases h
    · cases h
  · cases h
theorem pop_ok {G : Gm} (W Z : Addr → Prop) (φ : List Addr) (M : Mem) (H : Hp) (avs : List AV) (vs : List V) (R : Rel G W Z φ M H) (ra : SRs G (Bar W Z) φ H avs vs) (xs : List D) (d : D) (ys : List D) (M' : Mem) (h : mPop xs avs M = some (d, ys, M')) (p : Addr) (us : List V)
    (hp : H p = some (.lst us)) (rus : RDs G (Bar W Z) H xs us) : ∃ W' y ws, Rel G W' Z φ M' H ∧ (∀ a, W' a → W a) ∧ RD G (Bar W' Z) H d y ∧ RDs G (Bar W' Z) H ys ws ∧ ∀ Q : VK, Q y (upd H p (.lst ws)) → (rPop (.ref p) vs H Q ∨ rPopAt (.ref p) vs H Q) := by
  unfold mPop at h
  split at h
  · match vs, ra with
    | [], _ =>
      split at h
      · rename_i d1 e1
        cases h
        obtain ⟨y, e2, r⟩ := rus.get e1
        exact ⟨W, y, us.dropLast, R, fun _ z => z, r, rus.dropLast, fun Q q => .inl ⟨p, us, y, rfl, rfl, hp, by rw [← rus.length]; exact e2, q⟩⟩
      · cases h
  · obtain ⟨v, rfl, r1⟩ := ra.one
    cases r1
    split at h
    · rename_i hb
      split at h
      · rename_i k ek
        split at h
        · rename_i d1 e1
          cases h
          obtain ⟨y, e2, r⟩ := rus.get e1
          exact ⟨W, y, us.eraseIdx k, R, fun _ z => z, r, rus.eraseIdx k, fun Q q => .inr ⟨p, us, _, k, y, rfl, rfl, hp, hb.1, hb.2, by rw [← rus.length]; exact ek, e2, q⟩⟩
        · cases h
      · cases h
    · cases h
  · cases h
end
end Mp

namespace Mp
open PySem L2

/-! ## a, b = x, y with plain names; x op= e -/
def sPar2 (i j : Nat) (m n : Bool) (f g : SE) : SS := fun env M => (f env M).bind fun x M1 =>
  (g env (asgAV i m x env M1).2).bind fun y M2 => .ok (.next (asgAV j n y (asgAV i m x env M1).1 M2).1) (asgAV j n y (asgAV i m x env M1).1 M2).2
def sPar3 (i j k : Nat) (m n o : Bool) (f g h : SE) : SS := fun env M => (f env M).bind fun x M1 =>
  (g env (asgAV i m x env M1).2).bind fun y M2 => (h env (asgAV j n y (asgAV i m x env M1).1 M2).2).bind fun z M3 =>
    .ok (.next (asgAV k o z (asgAV j n y (asgAV i m x env M1).1 M2).1 M3).1) (asgAV k o z (asgAV j n y (asgAV i m x env M1).1 M2).1 M3).2
/-- what storing leaves: the frame's names as told, the state behind it -/
theorem asg_fin {G : Gm} {i : Nat} {m : Bool} {x : AV} {v : V} {W W1 Z : Addr → Prop} {φ : List Addr} {H H1 : Hp} {M1 : Mem} {env env0 : Env} {σ σ0 : St} (R : Rel G W1 Z φ M1 H1) (Er : EnvR G (Bar W1 Z) φ H1 env σ) (Er0 : EnvR G (Bar W Z) φ H env0 σ0)
    (hb : ∀ p W2, H p = none → (∀ a o, H a = some o → ¬ W a → ¬ W2 a) → (∀ a, W2 a → W1 a ∨ a = p) → Ext W H W2 H1 → EnvR G (Bar W2 Z) φ H1 env σ)
    (r : VR G W1 Z φ H H1 M1 x v) (y : Ext W H W1 H1) :
    ∃ W2 ψ, Rel G W2 Z (φ ++ ψ) (asgAV i m x env M1).2 H1 ∧ EnvR G (Bar W2 Z) (φ ++ ψ) H1 (asgAV i m x env M1).1 (σ.set i (some v)) ∧ Ext W H W2 H1 ∧ (∀ p ∈ ψ, H p = none) := by
  have plain : asgAV i m x env M1 = (env.set i (some x.settle), M1) → ∃ W2 ψ, Rel G W2 Z (φ ++ ψ) (asgAV i m x env M1).2 H1 ∧ EnvR G (Bar W2 Z) (φ ++ ψ) H1 (asgAV i m x env M1).1 (σ.set i (some v)) ∧ Ext W H W2 H1 ∧ (∀ p ∈ ψ, H p = none) := fun e => by
    rw [e]
    exact ⟨W1, [], by simpa using R, by simpa using Er.set r.sr.settle i, y, fun _ z => by cases z⟩
  cases x with
  | fr xs =>
    cases m with
    | false => exact plain rfl
    | true =>
      obtain ⟨p, rfl, h0, R2, hk⟩ := thaw R r y.live
      have x2 : Ext W H (add1 W1 p) H1 := ⟨fun a o e n => ⟨(y.keep a o e n).1, fun z => z.elim (y.keep a o e n).2 fun z => by subst z; rw [h0] at e; cases e⟩, y.live⟩
      refine ⟨add1 W1 p, [p], R2, ?_, x2, fun q hq => by simp at hq; subst hq; exact h0⟩
      have Er2 := (hb p (add1 W1 p) h0 (fun a o e n => (x2.keep a o e n).2) (fun a z => z) x2).app [p]
      refine Er2.set (av := .cell M1.length) ⟨p, ?_, rfl⟩ i
      rw [← R.len]
      simp
  | d y => exact plain (by cases m <;> rfl)
  | cell y => exact plain (by cases m <;> rfl)
  | scr y => exact plain (by cases m <;> rfl)
/-- a new list that comes while another one is at hand: the state with it as a cell -/
theorem asg_mem {i : Nat} {m : Bool} {x : AV} {env env' : Env} {M : Mem} : (asgAV i m x env M).2 = (asgAV i m x env' M).2 := by
  cases x <;> cases m <;> rfl
section
variable {X : Cx} {E : WX} {a b c : Expr} {f g h : SE} {pos px py pz pt pt2 : Pos} {kt k2 : Nat}
theorem gs_par2 {i j : Nat} {x y : Str} {m n : Bool} (hc : X.calm = true) (hN : X.N.Nodup) (hi : X.N[i]? = some x) (hj : X.N[j]? = some y) (hij : i ≠ j)
    (hx : X.env.scope.names.lookup x = some .local) (hy : X.env.scope.names.lookup y = some .local) (ha : GE X E a f) (hb : GE X E b g)
    (hw : swappedStores [.Tuple [.Name x px, .Name y py] kt pt] (.Tuple [a, b] k2 pt2) X.env = pure (some [x, y]))
    (hs : swapsWithSole [.Tuple [.Name x px, .Name y py] kt pt] (.Tuple [a, b] k2 pt2) pos.line X.env = pure false)
    (s1 : starEach [a, b] X.env = (false, eval a X.env) :: starEach [b] X.env) (s2 : starEach [b] X.env = (false, eval b X.env) :: starEach [] X.env) :
    GS X E (.Assign [.Tuple [.Name x px, .Name y py] kt pt] (.Tuple [a, b] k2 pt2) pos) (sPar2 i j m n f g) :=
  PS.imp (ps_par hc hN hi hj hij hx hy (pa_cons ha (pa_cons hb pa_nil s2) s1) hw hs) fun De σ H ⟨W, Z, φ, env, M, R, Er, h⟩ => by
    refine ⟨W, Z, φ, env, M, R, Er, (RunS.bind0 h).imp2 (fun v H1 ⟨W1, M1, x', _, R1, x1, r1, h2⟩ => ?_) (fun c d H' q => q σ rfl)⟩
    obtain ⟨W2, ψ, R2, Er2, x2, nw⟩ := asg_fin (i := i) (m := m) R1 (Er.ext x1.bar) Er (fun p W2 h0 k k2 xx => Er.ext xx.bar) r1 x1
    have h2' : RunS (gm X) Z (φ ++ ψ) W2 H1 σ.length ((g env (asgAV i m x' env M1).2).bind fun y' M2 => .ok (.next (asgAV j n y' (asgAV i m x' env M1).1 M2).1) (asgAV j n y' (asgAV i m x' env M1).1 M2).2) De E := RunS.later h2 ⟨R2, x2, nw⟩
    have Er1 : EnvR (gm X) (Bar W2 Z) (φ ++ ψ) H1 env σ := (Er.ext x2.bar).app ψ
    refine ⟨W2, Z, φ ++ ψ, env, _, R2, Er1, (RunS.bind0 h2').imp2 (fun u H2 ⟨W3, M3, y', _, R3, x3, r3, h4⟩ => ⟨v, u, rfl, ?_⟩) (fun c d H' q => q σ rfl)⟩
    obtain ⟨W4, ψ2, R4, Er4, x4, nw4⟩ := asg_fin (i := j) (m := n) R3 (Er2.ext x3.bar) Er2 (fun p W2 h0 k k2 xx => Er2.ext xx.bar) r3 x3
    exact h4 W4 ψ2 H2 _ ⟨R4, x4, nw4⟩ Er4 (by simp)
theorem gs_par3 {i j l : Nat} {x y z : Str} {m n o : Bool} (hc : X.calm = true) (hN : X.N.Nodup) (hi : X.N[i]? = some x) (hj : X.N[j]? = some y) (hl : X.N[l]? = some z) (hij : i ≠ j) (hil : i ≠ l) (hjl : j ≠ l)
    (hx : X.env.scope.names.lookup x = some .local) (hy : X.env.scope.names.lookup y = some .local) (hz : X.env.scope.names.lookup z = some .local) (ha : GE X E a f) (hb : GE X E b g) (hcc : GE X E c h)
    (hw : swappedStores [.Tuple [.Name x px, .Name y py, .Name z pz] kt pt] (.Tuple [a, b, c] k2 pt2) X.env = pure (some [x, y, z]))
    (hs : swapsWithSole [.Tuple [.Name x px, .Name y py, .Name z pz] kt pt] (.Tuple [a, b, c] k2 pt2) pos.line X.env = pure false)
    (s1 : starEach [a, b, c] X.env = (false, eval a X.env) :: starEach [b, c] X.env) (s2 : starEach [b, c] X.env = (false, eval b X.env) :: starEach [c] X.env) (s3 : starEach [c] X.env = (false, eval c X.env) :: starEach [] X.env) :
    GS X E (.Assign [.Tuple [.Name x px, .Name y py, .Name z pz] kt pt] (.Tuple [a, b, c] k2 pt2) pos) (sPar3 i j l m n o f g h) :=
  PS.imp (ps_par3 hc hN hi hj hl hij hil hjl hx hy hz (pa_cons ha (pa_cons hb (pa_cons hcc pa_nil s3) s2) s1) hw hs) fun De σ H ⟨W, Z, φ, env, M, R, Er, hh⟩ => by
    refine ⟨W, Z, φ, env, M, R, Er, (RunS.bind0 hh).imp2 (fun v H1 ⟨W1, M1, x', _, R1, x1, r1, h2⟩ => ?_) (fun c d H' q => q σ rfl)⟩
    obtain ⟨W2, ψ, R2, Er2, x2, nw⟩ := asg_fin (i := i) (m := m) R1 (Er.ext x1.bar) Er (fun p W2 h0 k k2 xx => Er.ext xx.bar) r1 x1
    have h2' := RunS.later h2 ⟨R2, x2, nw⟩
    have Er1 : EnvR (gm X) (Bar W2 Z) (φ ++ ψ) H1 env σ := (Er.ext x2.bar).app ψ
    refine ⟨W2, Z, φ ++ ψ, env, _, R2, Er1, (RunS.bind0 h2').imp2 (fun u H2 ⟨W3, M3, y', _, R3, x3, r3, h4⟩ => ?_) (fun c d H' q => q σ rfl)⟩
    obtain ⟨W4, ψ2, R4, Er4, x4, nw4⟩ := asg_fin (i := j) (m := n) R3 (Er2.ext x3.bar) Er2 (fun p W2 h0 k k2 xx => Er2.ext xx.bar) r3 x3
    have h4' := RunS.later h4 ⟨R4, x4, nw4⟩
    have Er3 : EnvR (gm X) (Bar W4 Z) (φ ++ ψ ++ ψ2) H2 env σ := (Er1.ext x4.bar).app ψ2
    refine ⟨W4, Z, φ ++ ψ ++ ψ2, env, _, R4, Er3, (RunS.bind0 h4').imp2 (fun w H3 ⟨W5, M5, z', _, R5, x5, r5, h6⟩ => ⟨v, u, w, rfl, ?_⟩) (fun c d H' q => q σ rfl)⟩
    obtain ⟨W6, ψ3, R6, Er6, x6, nw6⟩ := asg_fin (i := l) (m := o) R5 (Er4.ext x5.bar) Er4 (fun p W2 h0 k k2 xx => Er4.ext xx.bar) r5 x5
    exact h6 W6 ψ3 H3 _ ⟨R6, x6, nw6⟩ Er6 (by simp)
end

/-! ### x op= e -/
def inop : Operator → AV → AV → Mem → Out AV
  | .Add, .d (.int i), .d (.int j), M => .ok (.d (.int (i + j))) M
  | .Add, .d (.str x), .d (.str y), M => guard (decide (x.length + y.length ≤ sizeLine)) (.ok (.d (.str (x ++ y))) M)
  | .Sub, .d (.int i), .d (.int j), M => .ok (.d (.int (i - j))) M
  | .Mult, .d (.int i), .d (.int j), M => guard (decide (-(2 ^ 64) < i ∧ i < 2 ^ 64 ∨ -(2 ^ 64) < j ∧ j < 2 ^ 64)) (.ok (.d (.int (i * j))) M)
  | .FloorDiv, .d (.int i), .d (.int j), M => guard (decide (0 < j ∧ j < 1073741824)) (.ok (.d (.int (i / j))) M)
  | _, _, _, _ => .bad
def rIn2 : Operator → R2
  | .Add => fun x y H Q => (∃ i j, x = .int i ∧ y = .int j ∧ Q (.int (i + j)) H) ∨ (∃ i j, x = .str i ∧ y = .str j ∧ i.length + j.length ≤ sizeLine ∧ Q (.str (i ++ j)) H)
  | .Sub => rI0 fun i j => .int (i - j)
  | .Mult => rI CMul fun i j => .int (i * j)
  | .FloorDiv => rI CDiv fun i j => .int (i / j)
  | _ => fun _ _ _ _ => False
theorem rIn2_ok {X : Cx} : ∀ op : Operator, PIp X op (rIn2 op)
  | .Add => fun pins s σ H x y v u Q I rx ry q => (OpR.or (iop_add (X := X)) iop_add_str) pins s σ H x y v u Q I rx ry q
  | .Sub => fun pins s σ H x y v u Q I rx ry q => iop_sub pins s σ H x y v u Q I rx ry q
  | .Mult => fun pins s σ H x y v u Q I rx ry q => iop_mul pins s σ H x y v u Q I rx ry q
  | .FloorDiv => fun pins s σ H x y v u Q I rx ry q => iop_fdiv pins s σ H x y v u Q I rx ry q
  | .MatMult => fun _ _ _ _ _ _ _ _ _ _ _ _ h => h.elim
  | .Div => fun _ _ _ _ _ _ _ _ _ _ _ _ h => h.elim
  | .LShift => fun _ _ _ _ _ _ _ _ _ _ _ _ h => h.elim
  | .RShift => fun _ _ _ _ _ _ _ _ _ _ _ _ h => h.elim
  | .BitOr => fun _ _ _ _ _ _ _ _ _ _ _ _ h => h.elim
  | .BitXor => fun _ _ _ _ _ _ _ _ _ _ _ _ h => h.elim
  | .BitAnd => fun _ _ _ _ _ _ _ _ _ _ _ _ h => h.elim
  | .Mod => fun _ _ _ _ _ _ _ _ _ _ _ _ h => h.elim
  | .Pow => fun _ _ _ _ _ _ _ _ _ _ _ _ h => h.elim
theorem inop_run {G : Gm} {W Z : Addr → Prop} {φ : List Addr} {H : Hp} {M : Mem} {Q : VK} {E : XK} {v u : V} {op : Operator} {a b : AV} (R : Rel G W Z φ M H) (o1 : SR G (Bar W Z) φ H a v) (o2 : SR G (Bar W Z) φ H b u)
    (h : Run G Z φ W H (inop op a b M) Q E) : rIn2 op v u H Q := by
  unfold inop at h
  split at h
  · cases o1; cases o2; exact .inl ⟨_, _, rfl, rfl, Run.ok R h (.int _) (fun _ z => by cases z)⟩
  · obtain ⟨g, h⟩ := guard_run (P := fun r => Run G Z φ W H r Q E) h (fun z => z)
    cases o1; cases o2; exact .inr ⟨_, _, rfl, rfl, of_decide_eq_true g, Run.ok R h (.str _) (fun _ z => by cases z)⟩
  · cases o1; cases o2; exact ⟨_, _, rfl, rfl, Run.ok R h (.int _) (fun _ z => by cases z)⟩
  · obtain ⟨g, h⟩ := guard_run (P := fun r => Run G Z φ W H r Q E) h (fun z => z)
    have g' := of_decide_eq_true g
    cases o1; cases o2; exact ⟨_, _, rfl, rfl, g', Run.ok R h (.int _) (fun _ z => by cases z)⟩
  · obtain ⟨g, h⟩ := guard_run (P := fun r => Run G Z φ W H r Q E) h (fun z => z)
    have g' := of_decide_eq_true g
    cases o1; cases o2; exact ⟨_, _, rfl, rfl, g', Run.ok R h (.int _) (fun _ z => by cases z)⟩
  · exact h.elim
theorem inop_res {op : Operator} {a b : AV} {M M' : Mem} {av : AV} (h : inop op a b M = .ok av M') : M' = M ∧ ∀ xs, av ≠ .fr xs := by
  unfold inop guard at h
  split at h <;> (try split at h) <;> first | (cases h; exact ⟨rfl, fun _ z => by cases z⟩) | cases h
def sAug (i : Nat) (op : Operator) (f : SE) : SS := fun env M => match env[i]? with
  | some (some x) => (f env M).bind fun y M1 => (inop op x y M1).bind fun z M2 => .ok (.next (env.set i (some z))) M2
  | _ => .bad
def sAugI (op : Operator) (fo fi fe : SE) : SS := fun env M => (fo env M).bind fun o M1 => (fi env M1).bind fun k M2 => match k, lstOf M2 o with
  | .d (.int k), some xs => match atI xs k with
    | some x => (fe env M2).bind fun y M3 => match inop op (.d x) y M3 with
      | .ok (.d z) M4 => match cellOf? M4 o with
        | some (c, xs) => match ixN xs.length k with
          | some j => .ok (.next env) (M4.set c (some (.l (xs.set j z))))
          | none => .bad
        | none => .bad
      | _ => .bad
    | none => .bad
  | _, _ => .bad
section
variable {X : Cx} {E : WX} {o i e : Expr} {f fo fi fe : SE} {pos pos' tpos : Pos}
theorem gs_aug {i : Nat} {x : Str} {op : Operator} (hN : X.N.Nodup) (hi : X.N[i]? = some x) (hx : Loc X.env.scope x) (he : GE X E e f) (hf : X.fn x = true ∨ X.env.scope.names.lookup x = some .local) : GS X E (.AugAssign (.Name x pos') op e pos) (sAug i op f) :=
  PS.imp (ps_aug hN hi hx he (rIn2_ok op) hf) fun De σ H ⟨W, Z, φ, env, M, R, Er, h⟩ => by
    unfold sAug at h
    split at h
    · rename_i av ea
      obtain ⟨v, e1, r⟩ := Er.at_ i av ea
      refine ⟨v, e1, W, Z, φ, env, M, R, Er, (RunS.bind h).imp2 (fun u H1 ⟨W1, M1, y, _, R1, x1, r1, h2⟩ => ?_) (fun c d H' q => q σ rfl)⟩
      refine inop_run (op := op) (a := av) (b := y) (E := fun _ _ _ => False) R1 (r.ext x1.bar) r1.sr ?_
      cases eo : inop op av y M1 with
      | bad => rw [eo] at h2; exact h2.elim
      | exc _ _ => unfold inop guard at eo; split at eo <;> (try split at eo) <;> cases eo
      | ok z M2 =>
        rw [eo] at h2
        obtain ⟨rfl, nf⟩ := inop_res eo
        intro W' H' w R' x' r'
        exact h2 W' [] H' _ (Fin.of R' x') (by simpa using ((Er.ext x1.bar).ext x'.bar).set r'.sr i) (by simp)
    · exact h.elim
theorem gs_augI {op : Operator} (ho : GE X E o fo) (hi : GE X E i fi) (he : GE X E e fe) (ha : ∀ ov iv new, augStore i ov iv new = (do holding [new, ov, iv] (setItem ov iv new); release [new, ov, iv] []; pure .next)) :
    GS X E (.AugAssign (.Subscript o i tpos) op e pos) (sAugI op fo fi fe) :=
  PS.imp (ps_augS ho hi (get_list (p := 0)) he (rIn2_ok op) set_list ha) fun De σ H ⟨W, Z, φ, env, M, R, Er, h⟩ => ⟨W, Z, φ, env, M, R, Er,
    (RunS.bind h).imp2 (fun v H1 ⟨W1, M1, o', _, R1, x1, r1, h2⟩ => ⟨W1, Z, φ, env, M1, R1, Er.ext x1.bar,
      (RunS.bind h2).imp2 (fun w H2 ⟨W2, M2, k', _, R2, x2, r2, h3⟩ => by
        cases k' with
        | d kk =>
          cases kk with
          | int k =>
            cases r2
            cases el : lstOf M2 o' with
            | none => rw [el] at h3; exact h3.elim
            | some xs =>
              rw [el] at h3
              dsimp only at h3
              cases ea : atI xs k with
              | none => rw [ea] at h3; exact h3.elim
              | some x =>
                rw [ea] at h3
                dsimp only at h3
                obtain ⟨p, vs, rfl, q1, q2, _⟩ := R2.lst (r1.sr.ext x2.bar) el
                obtain ⟨y, e1, ry⟩ := q2.atI ea
                refine ⟨p, vs, k, y, rfl, rfl, q1, e1, W2, Z, φ, env, M2, R2, (Er.ext x1.bar).ext x2.bar, (RunS.bind h3).imp2 (fun u H3 ⟨W3, M3, y', _, R3, x3, r3, h4⟩ => ?_) (fun c d H' q => q σ rfl)⟩
                refine inop_run (op := op) (a := .d x) (b := y') (E := fun _ _ _ => False) R3 (ry.ext x3.bar) r3.sr ?_
                cases eo : inop op (.d x) y' M3 with
                | bad => rw [eo] at h4; exact h4.elim
                | exc _ _ => unfold inop guard at eo; split at eo <;> (try split at eo) <;> cases eo
                | ok z M4 =>
                  obtain ⟨rfl, nf⟩ := inop_res eo
                  rw [eo] at h4
                  intro W' H' zv R' x' r'
                  cases z with
                  | d zd =>
                    dsimp only at h4
                    cases ec : cellOf? M4 o' with
                    | none => rw [ec] at h4; exact h4.elim
                    | some cx =>
                      obtain ⟨c, ys⟩ := cx
                      rw [ec] at h4
                      dsimp only at h4
                      cases ej : ixN ys.length k with
                      | none => rw [ej] at h4; exact h4.elim
                      | some j =>
                        rw [ej] at h4
                        obtain ⟨rfl, em⟩ := cellOf_ok ec
                        obtain ⟨p', ep, e'⟩ := r1.sr
                        cases e'
                        obtain ⟨_, us, hp, rus⟩ := R'.cell c p _ ep em
                        obtain ⟨R5, x5⟩ := R'.setCell ep em (rus.set r' j)
                        refine ⟨p, us, k, j, rfl, rfl, hp, by rw [← rus.length]; exact ej, ?_⟩
                        exact h4 W' [] _ σ ⟨by simpa using R5, x'.trans x5, fun _ z => by cases z⟩ (by simpa using ((((Er.ext x1.bar).ext x2.bar).ext x3.bar).ext x'.bar).ext x5.bar) rfl
                  | _ => exact h4.elim
          | _ => exact h3.elim
        | _ => exact h3.elim) (fun c d H' q => q σ rfl)⟩) (fun c d H' q => q σ rfl)⟩
end
end Mp

namespace PySem
namespace RefX
open PySem.W PySem.Calls PyProof.Rows PySem.HandSPX
/-! ### an own error whose __init__ says super().__init__(reason); self.reason = reason -/
def rA (p1 p2 : Pos) : Arguments := { posonlyargs := [], args := [{ arg := "self", annotation := none, pos := p1 }, { arg := "reason", annotation := none, pos := p2 }], vararg := none, kwonlyargs := [], kw_defaults := [], kwarg := none, defaults := [] }
def rS : Scope := { kind := .function, names := [(PySem.Str.ofString "self", .local), (PySem.Str.ofString "reason", .local), (PySem.Str.ofString "__class__", .free), (PySem.Str.ofString "super", .globalImplicit)], isGenerator := false, isCoroutine := false, more := [] }
def rB (p0 p1 p2 p3 p4 p5 q1 q2 q3 q4 : Pos) : List Stmt :=
  [.Expr (.Call (.Attribute (.Call (.Name "super" p0) [] [] p1) "__init__" p2) [.Name "reason" p3] [] p4) p5, .Assign [.Attribute (.Name "self" q1) "reason" q2] (.Name "reason" q3) q4]
/-- what the written part says of the class at C, of its __init__ at fI -/
structure RefTxt (P : Program) (K : Frag) (mg : Str → Option Value) (nC : Str) (C fI : Addr) : Prop where
  gC : mg nC = some (.ref C)
  cls : ∃ nm q N bs bm sn sub ab col dd k0 k1 k2 k3 k5, K.lookup C = some (excClassObj nm q C N bs bm true sn sub ab col dd k0 k1 k2 k3 k5 "ValueError.__new__") ∧ refsVE bm = true
  sup : ks_superIn K C C "__init__" = some (some (.builtin "ValueError.__init__"))
  sub : mroIn K C (.ref C) = some true
  sVE : subIn K (.ref C) (.type "ValueError") = some true
  any : nsIn K cStatics "thirdparty.any" = some none
  gS : mg "super" = none
  sa : findIn K (.ref C) "__setattr__" = some (some (.builtin "object.__setattr__"))
  noN : findIn K (.ref C) "reason" = some none
  iC : findIn K (.ref C) "__init__" = some (some (.ref fI))
  tC : typeIn K (.ref fI) = some (.type "function")
  kC : keepIn K (.ref C) = true
  exC : subIn K (.ref C) (.type "BaseException") = some true
  tyC : typeIn K (.ref C) = some (.type "type")
  htop : (P.main.scope.names.lookup ("super" : Str)).isSome = false
  fn : ∃ (oc : Value) (od : Option Addr) (doc pm : Value) (an : Option Addr) (cda cc : Addr) (ct : Value) (osl : Array (Option Value)) (p1 p2 q0 q1 q2 q3 q4 q5 r1 r2 r3 r4 : Pos) (qn : Str),
    K.lookup fI = some ⟨oc, od, .func (ksFn "__init__" qn (rA p1 p2) (rB q0 q1 q2 q3 q4 q5 r1 r2 r3 r4) rS .none .none doc pm an (.ref cda) ct cc), osl⟩ ∧ (q2.endLine == q4.line) = true ∧ codeIn K (.ref cda) qn = true ∧
    (∃ (ccl : Value) (cdd : Option Addr) (vs : Array Value) (ccs : Array (Option Value)) (file : Str) (tf : Tok), K.lookup cda = some ⟨ccl, cdd, .fields vs, ccs⟩ ∧ vs[2]? = some (.str file tf) ∧ ((P.main.file : Str) == file) = true) ∧
    ∃ (cl : Value) (cld : Option Addr) (csl : Array (Option Value)), K.lookup cc = some ⟨cl, cld, .cell (some (.ref C)), csl⟩
theorem one_size (v : Value) : [v].length ≤ sizeLine := by
  rw [sizeLine_eq]
  exact (by decide : 1 ≤ 16777216)
/-- what __init__ leaves of a fresh exception at x -/
structure InitEnd (h h' : Heap) (x C dx t1 : Addr) (v : Value) : Prop where
  keep : ∀ b o, b ≠ x → h.get? b = some o → h'.get? b = some o
  obj : h'.get? x = some { cls := .ref C, dict := some dx, data := .fields #[.ref t1, .none, .none, .none, .bool false, .none] }
  dbig : h.objs.size ≤ dx
  dne : dx ≠ x
  ns : h'.Ns1 dx (fun y => if y = "reason" then some v else none)
structure OwnMade (h h' : Heap) (e C d : Addr) (v : Value) : Prop where
  keep : ∀ b o, h.get? b = some o → h'.get? b = some o
  new : h.objs.size ≤ e
  obj : ∃ oe vs, h'.get? e = some oe ∧ oe.cls = .ref C ∧ oe.dict = some d ∧ oe.data = .fields vs ∧ vs[1]? = some .none
  dbig : h.objs.size ≤ d
  dne : d ≠ e
  ns : h'.Ns1 d (fun y => if y = "reason" then some v else none)
section
variable {prog : Program} {w : World} {A : Around} {E : Value → Shared → Prop} {h : Heap} {g : Array GenState} {d : Drawn} {t : Nat} {os : OsState}
variable {nm q : Str} {C N : Addr} {bs bm : List Value} {hdct : Bool} {sn : List Str} {sub : List Value} {ab : Bool} {col : Option Bool} {dd : Option Addr} {k0 k1 k2 k3 k5 : Option Value}
theorem call_bw {u e t0 : Addr} {rest : List Value} {Q : Value → Shared → Prop}
    (hC : h.get? C = some (excClassObj nm q C N bs bm hdct sn sub ab col dd k0 k1 k2 k3 k5 "ValueError.__new__")) (he : h.get? e = some (HandSPX.excO C t0)) (hu : h.get? u = some (kxs_mw "ValueError.__init__" e)) (hrest : rest.length ≤ sizeLine)
    (hq : ∀ h' t1, (∀ b o, b ≠ e → h.get? b = some o → h'.get? b = some o) → h'.get? e = some (HandSPX.excO C t1) → Q .none ⟨h', g, d, t, os⟩) :
    wpAny (model prog w) A (call (.ref u) rest) Q E ⟨h, g, d, t, os⟩ := by
  refine wpAny_call (codeAny_of_tree ?_)
  show wpAny _ A.in1 (callAny (.ref u) ⟨rest, []⟩) _ _ _
  simp only [callAny]
  refine wpAny_bind (wpAny_load hu ?_)
  simp only [kxs_mw, show (Value.type "method-wrapper" == Value.type "method" || Value.type "method-wrapper" == Value.type "builtin_function_or_method" || Value.type "method-wrapper" == Value.type "method-wrapper") = true by decide, if_true]
  refine W.KFB.if_so (by decide) ?_
  refine wpAny_bind (W.check_bound_init F.excBase_ValueError.toExcCallFacts hC he rfl ?_)
  refine wpAny_bind (wpAny_pure (wpAny_pure ?_))
  refine ⟨Code.quiet_builtin _ (by decide +kernel), codeAny_builtin F.excBase_ValueError.initEntry ?_⟩
  rw [Around.under_plainId F.excBase_ValueError.init.plain _]
  wp_walk
  refine hq _ h.objs.size (fun b o hb ho => ?_) ?_
  · rw [Heap.get?_update_other _ _ (Ne.symm hb)]
    exact Heap.get?_push_of_some _ ho
  · rw [Heap.get?_update_self _ (Heap.get?_push_of_some _ he) rfl]
    rfl
end
section
variable {prog : Program} {w : World} {A : Around} {E : Value → Shared → Prop} {R : Result → Shared → Prop} {s : Shared} {K : Frag} {mg : Str → Option Value} {nC : Str} {C fI : Addr}
theorem ldX {M : Model} {s : Shared} {env : Env} {m : Str → Option Value} {x : Str} {pos : Pos} {v : Value} {Q : Value → Shared → Prop} {A : Around} {E : Value → Shared → Prop} (hn : s.heap.Ns env.locals m) (hv : m x = some v) (h : Q v s)
    (hk : env.scope.kind = .function := by rfl) (hl : env.kindOf x = some .local := by rfl) (hd : (x == ("__debug__" : Str)) = false := by decide) :
    wpAny M A (eval (.Name x pos) env) Q E s := wpAny_Name (wpAny_loadName_local hk hl hn hv h) hd
theorem super_he {o e : PySem.Expr} {name : Str} {apos pos : Pos} {env : Env} (hline : (apos.endLine == pos.line) = true) (hs : starEach [e] env = [(false, eval e env)]) :
    eval (.Call (.Attribute o name apos) [e] [] pos) env = (do
      let ov ← attributeBase o name env (eval o env)
      standAt apos.atName
      let (f, first) ← holding [ov] (getMethod ov name (do return (← importBound o env).getD true))
      callWith pos f first (backTo pos (starEach [e] env)) []) := by
  rw [arm_eval_Call]
  have hform : methodCallForm ([e].length + ([] : List Keyword).length) (backTo pos (starEach [e] env)) (backToKw pos (keywordEach [] env)) = true := by rw [hs]; rfl
  have hpos : methodCallPos true o env apos pos = pure pos := by unfold methodCallPos; simp [hline]
  unfold methodCall
  rw [hform, hpos]
  rfl
theorem ref_init (T : RefTxt prog K mg nC C fI) {x t0 : Addr} {v : Value} (X : K.In s.heap) (hlim : s.heap.NoLimit) (hg : s.heap.Ns mainGlobals mg) (hb : ∃ mb, s.heap.Ns builtinsNs mb ∧ ∀ x : Str, x ≠ "__name__" → mb x = bootBuiltins x)
    (hx : s.heap.get? x = some (excO C t0)) (hnx : K.lookup x = none) (hroom : A.depth < recursionLimit)
    (hq : ∀ h' tk dx t1, InitEnd s.heap h' x C dx t1 v → R (.ok (.ret .none)) { s with heap := h', toks := tk }) :
    codeAny (model prog w) A (.call (.ref fI) ⟨[.ref x, v], []⟩) R s := by
  obtain ⟨oc, od, doc, pm, an, cda, cc, ct, osl, p1, p2, q0, q1, q2, q3, q4, q5, r1, r2, r3, r4, qn, ho, hline, hcd, ⟨ccl, cdd, cvs, ccs, file, tf, hco, hvs, hfile⟩, cl, cld, csl, hcell⟩ := T.fn
  obtain ⟨nm, q, N, bs, bm, sn, sub, ab, col, dd, k0, k1, k2, k3, k5, hC, hbm⟩ := T.cls
  obtain ⟨mb, hb, hmb⟩ := hb
  have hcl : clsIn K C = some { name := nm, bases := bs, mro := .ref C :: bm, ns := N, qualname := q, hasDict := true, slotNames := sn, subclasses := sub, abstract := ab, collection := col, hasDel := false } := by unfold clsIn; rw [hC] <;> rfl
  refine ks_codeAny_call_defAt (fd := ksFn "__init__" qn (rA p1 p2) (rB q0 q1 q2 q3 q4 q5 r1 r2 r3 r4) rS .none .none doc pm an (.ref cda) ct cc) (body := rB q0 q1 q2 q3 q4 q5 r1 r2 r3 r4) (binds := [("self", .ref x), ("reason", v)])
    hroom (X _ _ ho) rfl hlim (codeRec_of X hcd) rfl (BindsTo.of_eq (by first | rfl | with_unfolding_all rfl)) (show ∀ x ∈ rS.names, x.2 ≠ NameKind.cell by decide) (by first | (intro y hy; simp at hy; rcases hy with rfl | rfl <;> rfl) | decide) (fun h₁ hn hk₁ => ?_)
  have X₁ : K.In h₁ := X.keeps hk₁
  have hx₁ := hk₁ _ _ hx
  have hxC : x ≠ C := fun e => by
    have z : s.heap.get? C = _ := X _ _ hC
    rw [← e, hx] at z
    cases z
  obtain ⟨hh, g, dr, tk, os⟩ := s
  show wpAt _ (A.deeper (ksEnv qn rS hh.objs.size fI (.ref cda) cc)) (.func (rB q0 q1 q2 q3 q4 q5 r1 r2 r3 r4) (ksEnv qn rS hh.objs.size fI (.ref cda) cc)) (execs (rB q0 q1 q2 q3 q4 q5 r1 r2 r3 r4) (ksEnv qn rS hh.objs.size fI (.ref cda) cc)) _ _ _
  refine ks_wpAt_execs_cons (ks_wpAt_Expr_any (ks_wpAt_MethodCall (he := super_he hline rfl) ?_))
  refine ks_wpAt_super_base rfl rfl rfl rfl (X₁ _ _ ho) rfl rfl rfl (X₁ _ _ hco) rfl hvs hfile T.htop ?_
  refine ks_loadName_global rfl rfl (loadGlobal_builtin (hg.keeps hk₁) T.gS (hb.keeps hk₁) ((hmb _ (by decide +kernel)).trans (by first | boot_by_name | rfl | kernel_rfl)) ⟨rfl, ?_⟩)
  refine wpAny_loadName_free rfl rfl rfl ⟨_, X₁ _ _ hcell, rfl⟩ ?_
  refine wpAny_loadName_local rfl rfl hn (v := .ref x) (by first | rfl | with_unfolding_all rfl | kernel_rfl) ?_
  refine ks_wpAny_isType_cls (X₁ _ _ hC) rfl ⟨rfl, ?_⟩
  refine ks_wpAny_call_super (X₁ _ _ hC) rfl hx₁ rfl (fun c e => by cases e) (looks_mroIn X₁ T.sub) (fun h₂ hso k₂ => ?_)
  have X₂ : K.In h₂ := X₁.keeps k₂
  have I₂ : InstAt h₂ x (excO C t0) C none := ⟨k₂ _ _ hx₁, rfl, rfl, trivial⟩
  have hsup := T.sup
  unfold ks_superIn at hsup
  rw [hcl] at hsup
  refine kxs_getMethod kxs_ValueError hso (looks_opaque X₂ T.any) (l₀ := .ref C :: bm) (fun A Q E s k q => wpAny_bind ((looks_clsIn X₂ hcl) A _ E s k (wpAny_pure q))) rfl X₂ hsup (I₂.type.andThen (looks_subIn X₂ T.sVE)) hxC (by decide) ?_
  dsimp only
  have hu : (h₂.push (kxs_mw "ValueError.__init__" x)).get? h₂.objs.size = some (kxs_mw "ValueError.__init__" x) := Heap.get?_push_at rfl rfl
  have k₃ : ∀ b o, h₂.get? b = some o → (h₂.push (kxs_mw "ValueError.__init__" x)).get? b = some o := fun b o e => Heap.get?_push_of_some _ e
  refine kxs_callWith (i := "ValueError.__init__") (x := x) (by rfl) (evalArgs_plain ?_)
  refine spliced_more (e := .Name "reason" q3) (rest := []) (env := ksEnv qn rS hh.objs.size fI (.ref cda) cc) (pos := q4) ?_
  refine ldX (v := v) (hn.keeps fun b o e => k₃ b o (k₂ b o e)) (by first | rfl | with_unfolding_all rfl | kernel_rfl) ?_
  refine spliced_none ⟨hu, ?_⟩
  show wpAny _ _ (call _ [v]) _ _ _
  have X₃ : K.In (h₂.push (kxs_mw "ValueError.__init__" x)) := X₂.keeps k₃
  refine call_bw (X₃ _ _ hC) (k₃ _ _ (k₂ _ _ hx₁)) hu (one_size v) (fun h₄ t1 k₄ hx₄ => ?_)
  have nL : hh.objs.size ≠ x := Nat.ne_of_gt (Heap.lt_size hx)
  have X₄ : K.In h₄ := fun b o e => k₄ b o (fun z => by rw [z, hnx] at e; cases e) (X₃ b o e)
  have hn₄ : h₄.Ns hh.objs.size (fun y => ([("self", Value.ref x), ("reason", v)] : List (Str × Value)).reverse.lookup y) := by
    obtain ⟨oL, es, ep, hL, r⟩ := hn
    exact ⟨oL, es, ep, k₄ _ _ nL (k₃ _ _ (k₂ _ _ hL)), r⟩
  refine wpAt_of_wpAny ?_
  show wpAny _ _ (execs _ _) _ _ _
  refine wpAny_execs_cons (plainObj_wpAny_Assign_Attribute ?_)
  refine ldX (v := v) hn₄ (by first | rfl | with_unfolding_all rfl | kernel_rfl) (ldX (v := .ref x) hn₄ (by first | rfl | with_unfolding_all rfl | kernel_rfl) ?_)
  refine set_plain X₄ (ox := excO C t1) (od := none) ⟨hx₄, rfl, rfl, trivial⟩ T.sa ?_
  refine exc_osa X₄ hx₄ hcl (show refsVE (.ref C :: bm) = true from hbm) rfl T.noN (fun h₅ tk₅ dx k₅ dn dne hx₅ hn₅ => ?_)
  show wpAny _ _ (execs _ _) _ _ _
  have kk : ∀ b o, b ≠ x → hh.get? b = some o → h₅.get? b = some o := fun b o n e => k₅ b o n (k₄ b o n (k₃ b o (k₂ b o (hk₁ b o e))))
  refine wpAny_execs_nil (hq h₅ tk₅ dx t1 ⟨kk, hx₅, ?_, dne, hn₅⟩)
  by_cases hd : hh.objs.size ≤ dx
  · exact hd
  · obtain ⟨oL, es, ep, hL, r⟩ := hn₄
    have y : hh.objs.size < h₄.objs.size := Heap.lt_size hL
    exact absurd (Nat.le_of_lt (Nat.lt_of_lt_of_le y dn)) hd
theorem ref_made (T : RefTxt prog K mg nC C fI) {v : Value} (X : K.In s.heap) (hlim : s.heap.NoLimit) (hg : s.heap.Ns mainGlobals mg) (hb : ∃ mb, s.heap.Ns builtinsNs mb ∧ ∀ x : Str, x ≠ "__name__" → mb x = bootBuiltins x) (hroom : A.depth + 1 < recursionLimit)
    (hq : ∀ h' tk e d, OwnMade s.heap h' e C d v → R (.ok (.ret (.ref e))) { s with heap := h', toks := tk }) :
    codeAny (model prog w) A (.call (.ref C) ⟨[v], []⟩) R s := by
  obtain ⟨nm, q, N, bs, bm, sn, sub, ab, col, dd, k0, k1, k2, k3, k5, hC, hbm⟩ := T.cls
  obtain ⟨hp, g, dr, tk, os⟩ := s
  have k : ∀ b o, hp.get? b = some o → ((hp.push (kdv_tup [v])).push (excO C hp.objs.size)).get? b = some o := fun b o e => Heap.get?_push_of_some _ (Heap.get?_push_of_some _ e)
  have hget : ((hp.push (kdv_tup [v])).push (excO C hp.objs.size)).get? (hp.objs.size + 1) = some (excO C hp.objs.size) := by heap_get
  have hnx : K.lookup (hp.objs.size + 1) = none := by
    cases e : K.lookup (hp.objs.size + 1) with
    | none => rfl
    | some o =>
      have z : hp.get? (hp.objs.size + 1) = some o := X _ _ e
      exact absurd (Nat.lt_of_succ_lt (Heap.lt_size z)) (Nat.lt_irrefl _)
  refine call_own F.excBase_ValueError (fun X => refsVE_contains X bm hbm) (X _ _ hC) (looks_findIn X T.iC) (fun self => bind_fn X self T.tC) (one_size v) ?_
  refine ref_init (s := ⟨(hp.push (kdv_tup [v])).push (excO C hp.objs.size), g, dr, tk, os⟩) T (X.keeps k) (hlim.keeps k) (hg.keeps k) (hb.imp fun _ z => ⟨z.1.keeps k, z.2⟩) hget hnx ?_ fun h' tk' dx t1 ⟨k', hx, dn, dne, hns⟩ => ?_
  · show A.depth + 1 < recursionLimit
    exact hroom
  · have old : ∀ b o, hp.get? b = some o → h'.get? b = some o := fun b o e => k' b o (Nat.ne_of_lt (Nat.lt_succ_of_lt (Heap.lt_size e))) (k b o e)
    have z : hp.objs.size + 1 + 1 ≤ dx := by
      first
        | (simpa only [Heap.size_push] using dn)
        | exact dn
        | (have q := dn; rw [Heap.size_push, Heap.size_push] at q; exact q)
    exact ⟨rfl, hq h' tk' (hp.objs.size + 1) dx ⟨old, Nat.le_succ _, ⟨_, _, hx, rfl, rfl, rfl, rfl⟩, Nat.le_trans (Nat.le_trans (Nat.le_succ _) (Nat.le_succ _)) z, dne, hns⟩⟩
end
end RefX
end PySem

namespace L2
open PySem PySem.Spec PyProof.Rows
theorem relO_ref {v : V} {v' : Value} (r : RelV v v') (f : Str) : RelO (List.lookup f [(("reason" : Str), v)]) (if f = "reason" then some v' else none) := by
  by_cases hw : f = "reason"
  · subst hw
    rw [if_pos rfl]
    have q : List.lookup ("reason" : Str) [(("reason" : Str), v)] = some v := by simp [List.lookup]
    rw [q]
    exact r
  · rw [if_neg hw]
    have qw : (f == ("reason" : Str)) = false := by simpa using hw
    have q2 : List.lookup f [(("reason" : Str), v)] = none := by simp [List.lookup, qw]
    rw [q2]
    trivial
section
variable {X : Cx} {C fI : Addr}
/-- Refused(e) -/
def tMkRef (C : Addr) (ta : TA) : St → Hp → XK → Prop := fun σ H Q => ta σ H fun vs H1 => ∃ v, vs = [v] ∧ ∀ d, H1 d = none → Q (.ref C) (some d) (upd H1 d (.xd [(("reason" : Str), v)]))
theorem pmk_ref {a : Expr} {ta : TA} {nC : Str} {p pos : Pos} {k : Nat} (T : PySem.RefX.RefTxt X.prog X.K X.mg nC C fI) (hr : Room k X.A) (ha : PA X [a] ta) (hg : Gl X nC) (hdb : (nC == ("__debug__" : Str)) = false)
    (he : starEach (a :: []) X.env = (false, eval a X.env) :: starEach [] X.env) (hpl : (backTo pos (starEach [] X.env)).any (·.1) = false := by rfl) :
    PMk X (.Call (.Name nC p) [a] [] pos) (tMkRef C ta) := by
  intro pins s σ H Q I h
  refine wpAny_Call_Name_kw (ld_glob I hg T.gC ?_ hdb)
  refine PySem.W.callWith_K (h₀ := X.base) I.ok.mod.kin T.kC (thn (ha.run pos pins s σ H _ I h) fun us s1 hh => ?_) he hpl
  obtain ⟨vs, H1, I1, r1, v, ev, q1⟩ := hh
  subst ev
  refine ⟨I1.kIn, ?_⟩
  cases r1 with
  | cons rv rn =>
    rename_i v' us'
    cases rn
    show wpAny _ _ (call (.ref C) [v']) _ _ _
    have hlim := I1.nolimit
    have hgl := I1.ok.mod.glob.keeps I1.bk
    have hbl : ∃ mb, s1.heap.Ns builtinsNs mb ∧ ∀ x : Str, x ≠ "__name__" → mb x = bootBuiltins x := I1.ok.mod.blt.imp fun _ z => ⟨z.1.keeps I1.bk, z.2⟩
    have kIn := I1.kIn
    obtain ⟨hp, g, dr, tk, os⟩ := s1
    refine wpAny_call (PySem.RefX.ref_made T kIn hlim hgl hbl (by have := hr.dp; omega) fun h' tk' e d M => ?_)
    show MkP X pins σ Q (.ref e) ⟨h', g, dr, tk', os⟩
    obtain ⟨oe, fv, hoe, hc, hd, hdat, h1⟩ := M.obj
    have hns := M.ns
    obtain ⟨G', g1, g2⟩ := restrict h' fun b => decide (b ≠ e)
    have gk : ∀ b, b ≠ e → G'.get? b = h'.get? b := fun b hb => g1 b (decide_eq_true hb)
    have ge : G'.get? e = none := g2 e (by simp)
    have old : ∀ b o, hp.get? b = some o → G'.get? b = some o := fun b o q => (gk b (Nat.ne_of_lt (Nat.lt_of_lt_of_le (Heap.lt_size q) M.new))).trans (M.keep b o q)
    have ob : ObjOk X.prog X.w (upd H1 d (.xd [(("reason" : Str), v)])) G' d (.xd [(("reason" : Str), v)]) :=
      ⟨_, hns.at (fun o q => (gk d M.dne).trans q), fun f => relO_ref rv f⟩
    have J : Inv X pins σ (upd H1 d (.xd [(("reason" : Str), v)])) ⟨G', g, dr, tk', os⟩ := I1.laid (t' := tk') old M.dbig ob
    refine ⟨e, oe, fv, ⟨G', g, dr, tk', os⟩, _, .ref C, some d, rfl, J, fun b o q => ?_, ge, hoe, ⟨hc, hd⟩, hdat, h1, ?_, rfl, I1.bare, raises_own T.exC T.tyC, q1 d (I1.hok.fresh M.dbig)⟩
    · by_cases hb : b = e
      · have q' : G'.get? b = some o := q
        rw [hb, ge] at q'; cases q'
      · exact (gk b hb).symm.trans q
    · rw [upd_ne (Ne.symm M.dne)]
      exact I1.hok.fresh M.new
end
end L2

namespace L2
open PySem PySem.Spec PyProof.Rows
/-! ### several except clauses, with or without a name -/
def wMix (K : PySem.W.Frag) (Wout : WX) (D : Ends) : List (Value × Option Nat × (Addr → Value → Option Addr → TS)) → WX
  | [] => Wout
  | (c, none, ts) :: r => fun cls d σ H => ∃ b, PySem.W.exmOne K cls c = some b ∧ (b = true → ∀ a, H a = none → ts a cls d D σ H) ∧ (b = false → wMix K Wout D r cls d σ H)
  | (c, some i, ts) :: r => fun cls d σ H => ∃ b, PySem.W.exmOne K cls c = some b ∧
      (b = true → ∀ a, H a = none → ts a cls d { nx := fun σ' H' => D.nx (σ'.set i none) H', rt := D.rt, bk := fun σ' H' => D.bk (σ'.set i none) H', ct := fun σ' H' => D.ct (σ'.set i none) H' } (σ.set i (some (.ref a))) H) ∧
      (b = false → wMix K Wout D r cls d σ H)
inductive HdsMx (X : Cx) : List ExceptHandler → List (Value × Option Nat × (Addr → Value → Option Addr → TS)) → Prop
  | nil : HdsMx X [] []
  | cons {x : Str} {c : Value} {ts : Addr → Value → Option Addr → TS} {b₀ : Stmt} {suite : List Stmt} {np pos' : Pos} {hds : List ExceptHandler} {l : List (Value × Option Nat × (Addr → Value → Option Addr → TS))} (hc : Names X x c)
      (hsu : ∀ (a : Addr) (oe : Obj) (cls : Value) (d : Option Addr) (pn : List (Addr × Obj)), Zc cls d oe → (∃ vs, oe.data = .fields vs) → PSs (X.suite a ((a, oe) :: pn)) (b₀ :: suite) (ts a cls d)) (r : HdsMx X hds l) :
      HdsMx X (.ExceptHandler (some (.Name x np)) none (b₀ :: suite) pos' :: hds) ((c, none, ts) :: l)
  | consA {x n : Str} {i : Nat} {c : Value} {ts : Addr → Value → Option Addr → TS} {b₀ : Stmt} {suite : List Stmt} {np pos' : Pos} {hds : List ExceptHandler} {l : List (Value × Option Nat × (Addr → Value → Option Addr → TS))} (hc : Names X x c)
      (hN : X.N.Nodup) (hi : X.N[i]? = some n) (hln : X.env.kindOf n = some .local)
      (hsu : ∀ (a : Addr) (oe : Obj) (cls : Value) (d : Option Addr) (pn : List (Addr × Obj)), Zc cls d oe → (∃ vs, oe.data = .fields vs) → PSs (X.suite a ((a, oe) :: pn)) (b₀ :: suite) (ts a cls d)) (r : HdsMx X hds l) :
      HdsMx X (.ExceptHandler (some (.Name x np)) (some n) (b₀ :: suite) pos' :: hds) ((c, some i, ts) :: l)
section
variable {X : Cx} {body : List Stmt} {h₀ : ExceptHandler} {hds : List ExceptHandler} {l : List (Value × Option Nat × (Addr → Value → Option Addr → TS))} {pos : Pos} {tb : WX → TS} {Wout : WX}
theorem ps_try_mix (hs : X.stack = X.env :: X.outer) (hf : X.env.frame = some X.env.locals) (tk : Takes X Wout)
    (hb : ∀ (W : WX) (pn : List (Addr × Obj)) (xe : Value → Shared → Prop), Takes (X.tr pn xe) W → PassesOwn (model X.prog X.w) X.A X.env xe → PSs (X.tr pn xe) body (tb W))
    (hh : HdsMx X (h₀ :: hds) l) : PS X (.Try body (h₀ :: hds) [] [] pos) (fun D σ H => tb (wMix X.K Wout D l) D σ H) := by
  refine ⟨fun pins s σ H D I h => ?_⟩
  have ok := I.ok
  have hfr : X.A.frames = some (X.env :: X.outer) := by rw [ok.frames, hs]
  refine wpAny_Try_except ?_
  refine wpAny_mono ((hb (wMix X.K Wout D l) (X.pn ++ pins) (fun e s₁ => wpAny (model X.prog X.w) X.A (noteFrame e X.env) (fun _ s₂ => wpAny (model X.prog X.w) X.A (setFlight e none) (fun _ s₃ =>
    wpAny (model X.prog X.w) X.A (handleBy e X.env (h₀ :: hds)) (SP X pins D) X.xe s₃) X.xe s₂) X.xe s₁) (fun u s' xx => ?_) PassesOwn.looking).run [] s σ H D (I.toTry _) h) (fun f s1 hsp => ?_) (fun e s1 he => he)
  · -- the catch
    obtain ⟨a, B, sI, pins', σ', H', cls, d, rfl, J', nb, up, sky, na, os, ag, w⟩ := xx
    have J : Inv X pins σ' H' sI := J'.ofTry ok
    have sky' : Sky B (X.env :: X.outer) a (Zc cls d) X.env.locals s'.heap := by rw [← hs]; exact sky
    show wpAny (model X.prog X.w) X.A (noteFrame (.ref a) X.env) _ _ _
    refine Sky.land Zc.steady hfr hf sky' fun h3 fl3 up3 => ?_
    have J3 : Inv X pins σ' H' { s' with heap := h3 } := J.landed nb fl3.1 (up.trans up3) os ag
    obtain ⟨oe3, vs3, he3, hz3, hd3⟩ := fl3.there
    have notFr : ∀ {h : Heap} {o : Obj} {vs : Array Value}, h.FunFrames B (X.env :: X.outer) → h.get? a = some o → o.data = .fields vs → a ∉ frs (X.env :: X.outer) := fun {h o vs} ff e dd hm => by
      obtain ⟨_, o', e', hnf⟩ := ff.mem hm
      rw [e] at e'; cases e'
      exact hnf _ dd
    have nfr := notFr fl3.2.2.1 he3 hd3
    have nL : a ≠ X.env.locals := fun z => nfr (List.mem_filterMap.mpr ⟨X.env, List.mem_cons_self, by rw [hf, z]⟩)
    have nF : a ∉ X.fs := fun hm => by
      obtain ⟨e, he, q⟩ := List.mem_filterMap.mp hm
      exact nfr (List.mem_filterMap.mpr ⟨e, List.mem_cons_of_mem _ he, q⟩)
    have S3 := J3.suite he3 hd3 na nL nF
    have LT : PySem.W.Looks (model X.prog X.w) h3 (typeOf (.ref a)) cls := fun A Q E s k q => wpAny_typeOf_ref (k _ _ he3) (by rw [hz3.1]; exact q)
    have test : ∀ {x : Str} {np : Pos} {c : Value} {Q : Value → Shared → Prop} {E : Value → Shared → Prop}, Names X x c → Q c { s' with heap := h3 } → wpAny (model X.prog X.w) (X.A.mark (some (.ref a))) (eval (.Name x np) X.env) Q E { s' with heap := h3 } := fun {x np c Q E} hc q => by
      obtain ⟨hg, hdbg, hm | ⟨hm, hv, hnn⟩⟩ := hc
      · exact ld_glob (X := X.suite a ((a, oe3) :: (X.pn ++ pins))) S3 hg hm q hdbg
      · exact ld_blt (X := X.suite a ((a, oe3) :: (X.pn ++ pins))) S3 hg hm hv q hnn hdbg
    have go : ∀ {hds' : List ExceptHandler} {l' : List (Value × Option Nat × (Addr → Value → Option Addr → TS))}, HdsMx X hds' l' → wMix X.K Wout D l' cls d σ' H' →
        wpAny (model X.prog X.w) X.A (handleBy (.ref a) X.env hds') (SP X pins D) X.xe { s' with heap := h3 } := by
      intro hds' l' hk
      induction hk with
      | nil =>
        intro w
        refine wpAny_handleBy_nil ?_
        obtain ⟨k1, k2, k3, oe, vs, T, oT, ts', he, hz, hd, h1, hr⟩ := id fl3
        unfold PySem.passOn
        refine wpAny_bind (wpAny_field he hd h1 ?_)
        rw [if_neg (show ¬ ((Value.ref T == Value.none) = true) from by simp)]
        have fin : wpAny (model X.prog X.w) X.A (setFlight (.ref a) X.env.frame) (fun _ s4 => wpAny (model X.prog X.w) X.A (throw (.ref a) : Sem Flow) (SP X pins D) X.xe s4) X.xe { s' with heap := h3 } := by
          rw [hf]
          refine HandSPX.setFlight_upZ fl3 fun h4 hh4 up4 => wpAny_throw (tk _ _ ?_)
          exact ⟨a, B, sI, pins, σ', H', cls, d, rfl, J, nb, (up.trans up3).trans up4, .inr (.inr (by rw [hs]; exact hh4)), na, os, ag, w⟩
        first
          | exact wpAny_bind (wpAny_pure (wpAny_bind fin))
          | exact wpAny_bind fin
      | @cons x c ts b₀ suite np pos' hds2 l2 hc hsu r ih =>
        intro w
        obtain ⟨b, hb1, hyes, hno⟩ := w
        refine wpAny_handleBy_cons (codeAny_handlers_test ?_) (by intro q; cases q)
        have LM := PySem.W.exm_one (M := model X.prog X.w) (J3.kIn) LT hb1
        refine test hc (LM.here ?_)
        cases b with
        | true =>
          refine codeAny_handlers_suite ?_
          refine HandSPX.lands_againZ fl3 fun h4 fl4 up4 => ?_
          have J4 : Inv X pins σ' H' { s' with heap := h4 } := J.landed nb fl4.1 ((up.trans up3).trans up4) os ag
          obtain ⟨oe4, vs4, he4, hz4, hd4⟩ := fl4.there
          have S4 := J4.suite he4 hd4 na nL nF
          refine wpAny_mono ((hsu a oe4 cls d (X.pn ++ pins) hz4 ⟨_, hd4⟩).run [] _ _ H' _ S4 (hyes rfl a na)) (fun f s6 hsp => ?_) (fun _ _ z => False.elim z)
          cases f with
          | next =>
            obtain ⟨σ6, H6, S6, q6⟩ := hsp
            exact ⟨_, _, S6.unsuite ok, q6⟩
          | brk =>
            obtain ⟨σ6, H6, S6, q6⟩ := hsp
            exact ⟨_, _, S6.unsuite ok, q6⟩
          | cont =>
            obtain ⟨σ6, H6, S6, q6⟩ := hsp
            exact ⟨_, _, S6.unsuite ok, q6⟩
          | ret u =>
            obtain ⟨v6, σ6, H6, S6, r6, q6⟩ := hsp
            exact ⟨_, _, _, S6.unsuite ok, r6, q6⟩
        | false =>
          show wpAny _ X.A (handleBy (.ref a) X.env hds2) _ _ _
          exact ih (hno rfl)
      | @consA x n i c ts b₀ suite np pos' hds2 l2 hc hN hi hln hsu r ih =>
        intro w
        have hloc : Loc X.env.scope n := .inl hln
        obtain ⟨b, hb1, hyes, hno⟩ := w
        refine wpAny_handleBy_cons (codeAny_handlers_test ?_) (by intro q; cases q)
        have LM := PySem.W.exm_one (M := model X.prog X.w) (J3.kIn) LT hb1
        refine test hc (LM.here ?_)
        cases b with
        | true =>
          refine codeAny_handlers_suite_as ?_
          refine HandSPX.lands_againZ fl3 fun h4 fl4 up4 => ?_
          have J4 : Inv X pins σ' H' { s' with heap := h4 } := J.landed nb fl4.1 ((up.trans up3).trans up4) os ag
          obtain ⟨oe4, vs4, he4, hz4, hd4⟩ := fl4.there
          have S4 := J4.suite he4 hd4 na nL nF
          refine store_ok (X := X.suite a ((a, oe4) :: (X.pn ++ pins))) (v := .ref a) S4 hN hi hloc rfl (fun s5 S5 => ?_) (.inr hln)
          refine wpAny_mono ((hsu a oe4 cls d (X.pn ++ pins) hz4 ⟨_, hd4⟩).run [] s5 _ H' _ S5 (hyes rfl a na)) (fun f s6 hsp => ?_) (fun _ _ z => False.elim z)
          have end_ : ∀ {σ6 : St} {H6 : Hp} {Q : Shared → Prop}, Inv (X.suite a ((a, oe4) :: (X.pn ++ pins))) [] σ6 H6 s6 → (∀ s7, Inv X pins (σ6.set i none) H6 s7 → Q s7) →
              wpAny (model X.prog X.w) X.A (do bindName X.env n .none; unbindBehindTheSuite X.env n pos') (fun _ s7 => Q s7) X.xe s6 := fun {σ6 H6 Q} S6 hq => gone_ok (S6.unsuite ok) hN hi hln hq
          cases f with
          | next =>
            obtain ⟨σ6, H6, S6, q6⟩ := hsp
            exact end_ S6 fun s7 J7 => ⟨_, _, J7, q6⟩
          | brk =>
            obtain ⟨σ6, H6, S6, q6⟩ := hsp
            exact end_ S6 fun s7 J7 => ⟨_, _, J7, q6⟩
          | cont =>
            obtain ⟨σ6, H6, S6, q6⟩ := hsp
            exact end_ S6 fun s7 J7 => ⟨_, _, J7, q6⟩
          | ret u =>
            obtain ⟨v6, σ6, H6, S6, r6, q6⟩ := hsp
            exact end_ S6 fun s7 J7 => ⟨_, _, _, J7, r6, q6⟩
        | false =>
          show wpAny _ X.A (handleBy (.ref a) X.env hds2) _ _ _
          exact ih (hno rfl)
    exact go hh w
  · cases f with
    | next =>
      obtain ⟨σ', H', J', q⟩ := hsp
      exact wpAny_execs_nil ⟨σ', H', J'.ofTry ok, q⟩
    | brk =>
      obtain ⟨σ', H', J', q⟩ := hsp
      exact ⟨σ', H', J'.ofTry ok, q⟩
    | cont =>
      obtain ⟨σ', H', J', q⟩ := hsp
      exact ⟨σ', H', J'.ofTry ok, q⟩
    | ret u =>
      obtain ⟨v, σ', H', J', r, q⟩ := hsp
      exact ⟨v, σ', H', J'.ofTry ok, r, q⟩
end
end L2
namespace Mp
open PySem L2

/-! ## raise -/
def sRaise (x : Str) (fs : List (Str × D)) : SS := fun _ M => .exc ⟨x, fs⟩ M
section
variable {X : Cx} {E : WX} {C fI : Addr} {x m : Str} {j k : Nat} {p p2 pos pos2 : Pos}
theorem gs_raiseM (hc : X.calm = true) (tk : Takes X E) (q : PySem.W.excIn X.K C [.type "ValueError", .type "Exception", .type "BaseException", .type "object"] "ValueError.__new__" = true) (gC : X.mg x = some (.ref C)) (kC : PySem.W.keepIn X.K (.ref C) = true)
    (r : Raises X (.ref C)) (hg : Gl X x) (hdb : (x == ("__debug__" : Str)) = false) : GS X E (.Raise (some (.Call (.Name x p) [.Constant (.str m) j p2] [] pos)) none pos2) (sRaise x []) :=
  PS.imp (ps_raise hc tk (pmk_own PySem.F.excBase_ValueError q gC kC r hg hdb)) fun D σ H ⟨W, Z, φ, env, M, R, Er, h⟩ => by
    exact h W [] H (.ref C) none σ (Fin.refl R) ⟨C, gC, rfl, .inl ⟨rfl, rfl⟩⟩ rfl
theorem gs_raiseR (hc : X.calm = true) (tk : Takes X E) (T : PySem.RefX.RefTxt X.prog X.K X.mg x C fI) (hr : Room k X.A) (hg : Gl X x) (hdb : (x == ("__debug__" : Str)) = false)
    (he : starEach (.Constant (.str m) j p2 :: []) X.env = (false, eval (.Constant (.str m) j p2) X.env) :: starEach [] X.env) :
    GS X E (.Raise (some (.Call (.Name x p) [.Constant (.str m) j p2] [] pos)) none pos2) (sRaise x [("reason", .str m)]) :=
  PS.imp (ps_raise hc tk (pmk_ref T hr (pa_cons pe_str pa_nil) hg hdb he)) fun De σ H ⟨W, Z, φ, env, M, R, Er, h⟩ => by
    refine ⟨.str m, rfl, fun d hd => ?_⟩
    have x1 := Ext.laid R (o := .xd [(("reason" : Str), V.str m)]) hd
    have R1 := R.laid0 (o := .xd [(("reason" : Str), V.str m)]) hd
    refine h W [] _ (.ref C) (some d) σ (Fin.of R1 x1) ⟨C, T.gC, rfl, .inr ⟨d, _, rfl, upd_same, fun z => z.elim (fun z => R.wt d z hd) fun z => R.zt d z hd, fun f y e => ?_⟩⟩ rfl
    have e : List.lookup f [(("reason" : Str), Mp.D.str m)] = some y := e
    by_cases hw : f = "reason"
    · subst hw
      have q : List.lookup ("reason" : Str) [(("reason" : Str), Mp.D.str m)] = some (Mp.D.str m) := by simp [List.lookup]
      rw [q] at e
      cases e
      exact ⟨.str m, by simp [List.lookup], .str m⟩
    · have qw : (f == ("reason" : Str)) = false := by simpa using hw
      have q : List.lookup f [(("reason" : Str), Mp.D.str m)] = none := by simp [List.lookup, qw]
      rw [q] at e
      cases e
end

/-! ## except suites -/
abbrev SX := Exc → Option D
def rdX (G : Gm) (i : Option Nat) (a : Addr) (cls : Value) (d : Option Addr) (g : SX) : TE := fun σ H Q => ∃ W Z φ M ex, Rel G W Z φ M H ∧ XR G (Bar W Z) H ex cls d ∧ (∀ j, i = some j → σ[j]? = some (some (.ref a))) ∧
  ∃ x, g ex = some x ∧ ∀ W' H' v, Rel G W' Z φ M H' → Ext W H W' H' → RD G (Bar W' Z) H' x v → Q v H'
abbrev GX (X : Cx) (G : Gm) (i : Option Nat) (a : Addr) (cls : Value) (d : Option Addr) (e : Expr) (g : SX) : Prop := PE X e (rdX G i a cls d g)
def rdXs (G : Gm) (i : Option Nat) (a : Addr) (cls : Value) (d : Option Addr) (g : Exc → Option (List D)) : TA := fun σ H Q => ∃ W Z φ M ex, Rel G W Z φ M H ∧ XR G (Bar W Z) H ex cls d ∧ (∀ j, i = some j → σ[j]? = some (some (.ref a))) ∧
  ∃ x, g ex = some x ∧ ∀ W' H' v, Rel G W' Z φ M H' → Ext W H W' H' → RDs G (Bar W' Z) H' x v → Q v H'
theorem XR.ext {G : Gm} {B B' : Addr → Prop} {H H' : Hp} {e : Exc} {c : Value} {d : Option Addr} (h : XR G B H e c d) (x : Ext B H B' H') : XR G B' H' e c d := by
  obtain ⟨C, h1, h2, h3⟩ := h
  refine ⟨C, h1, h2, h3.imp id fun ⟨dd, fs, e1, e2, nb, k⟩ => ⟨dd, fs, e1, (x.keep dd _ e2 nb).1, (x.keep dd _ e2 nb).2, fun f y e => ?_⟩⟩
  obtain ⟨v, e3, r⟩ := k f y e
  exact ⟨v, e3, r.ext x⟩
section
variable {X : Cx} {G : Gm} {i : Option Nat} {a : Addr} {cls : Value} {d : Option Addr} {e f : Expr} {es : List Expr} {g : SX} {l : Exc → Option (List D)} {k : Nat} {pos : Pos}
theorem gx_con {y : D} {v : V} (h : PE X e (tC v)) (r : ∀ B H, RD G B H y v) : GX X G i a cls d e (fun _ => some y) :=
  PE.imp h fun σ H Q ⟨W, Z, φ, M, ex, R, xr, hi, x, hx, q⟩ => by
    cases hx
    exact q W H v R (Ext.refl _ _) (r _ _)
theorem gx_nil : PA X [] (rdXs G i a cls d fun _ => some []) :=
  PA.imp pa_nil fun σ H Q ⟨W, Z, φ, M, ex, R, xr, hi, x, hx, q⟩ => by
    cases hx
    exact q W H [] R (Ext.refl _ _) .nil
theorem gx_cons (h1 : GX X G i a cls d e g) (h2 : PA X es (rdXs G i a cls d l)) (he : starEach (e :: es) X.env = (false, eval e X.env) :: starEach es X.env) :
    PA X (e :: es) (rdXs G i a cls d fun ex => match g ex, l ex with | some x, some xs => some (x :: xs) | _, _ => none) :=
  PA.imp (pa_cons h1 h2 he) fun σ H Q ⟨W, Z, φ, M, ex, R, xr, hi, x, hx, q⟩ => by
    dsimp only at hx
    cases e1 : g ex with
    | none => rw [e1] at hx; cases hx
    | some y =>
      cases e2 : l ex with
      | none => rw [e1, e2] at hx; cases hx
      | some ys =>
        rw [e1, e2] at hx
        cases hx
        refine ⟨W, Z, φ, M, ex, R, xr, hi, y, e1, fun W1 H1 v R1 x1 r1 => ⟨W1, Z, φ, M, ex, R1, xr.ext x1.bar, hi, ys, e2, fun W2 H2 vs R2 x2 r2 => ?_⟩⟩
        exact q W2 H2 _ R2 (x1.trans x2) (.cons (r1.ext x2.bar) r2)
theorem gx_tup (h : PA X es (rdXs G i a cls d l)) (hl : es.length ≤ 1000) (hn : ∀ ex xs, l ex = some xs → xs.length = es.length) : GX X G i a cls d (.Tuple es k pos) (fun ex => (l ex).map D.tup) :=
  PE.imp (pe_tup h) fun σ H Q ⟨W, Z, φ, M, ex, R, xr, hi, x, hx, q⟩ => by
    dsimp only at hx
    cases e : l ex with
    | none => rw [e] at hx; cases hx
    | some xs =>
      rw [e] at hx
      cases hx
      refine ⟨W, Z, φ, M, ex, R, xr, hi, xs, e, fun W1 H1 vs R1 x1 r1 => ⟨?_, fun tp htp => ?_⟩⟩
      · rw [← r1.length, hn ex xs e, sizeLine_eq]; omega
      · have x2 := Ext.laid R1 (o := .tup vs) htp
        refine q W1 _ _ (R1.laid0 htp) (x1.trans x2) (.tup ⟨upd_same, fun z => z.elim (fun z => R1.wt tp z htp) fun z => R1.zt tp z htp⟩ (r1.ext x2.bar))
end
section
variable {X : Cx} {i : Nat} {a C : Addr} {oe : Obj} {cls : Value} {d : Option Addr} {pn : List (Addr × Obj)} {n f nC : Str} {p pos : Pos}
theorem gx_fld (T : XfC X.K C) (hno : PySem.W.findIn X.K (.ref C) f = some none) (gC : X.mg nC = some (.ref C)) (hz : Zc cls d oe) (hf : ∃ vs, oe.data = .fields vs) (hN : X.N[i]? = some n) (hv : Vis X.env.scope n) (hd : (n == ("__debug__" : Str)) = false) (hcd : (n == ("__classdict__" : Str)) = false)
    (hb : attributeBase (.Name n p) f X.env (eval (.Name n p) X.env) = eval (.Name n p) X.env) :
    GX (X.suite a ((a, oe) :: pn)) (gm X) (some i) a cls d (.Attribute (.Name n p) f pos) (fun ex => if ex.cls = nC then ex.fs.lookup f else none) :=
  PE.imp (pe_xf T hno hz hf (pe_var (X := X.suite a ((a, oe) :: pn)) (i := i) hN hv hd hcd) hb) fun σ H Q ⟨W, Z, φ, M, ex, R, xr, hi, x, hx, q⟩ => by
    dsimp only at hx
    split at hx
    · rename_i hcl
      obtain ⟨C', h1, h2, h3⟩ := xr
      rw [hcl] at h1
      have e : C' = C := by
        have z : some (Value.ref C) = some (Value.ref C') := gC.symm.trans h1
        cases z; rfl
      subst e
      rcases h3 with ⟨h3, _⟩ | ⟨dd, fs, e1, e2, nb, k⟩
      · rw [h3] at hx; cases hx
      · obtain ⟨v, e3, r⟩ := k f x hx
        exact ⟨.ref a, hi i rfl, rfl, h2, dd, fs, v, e1, e2, e3, q W H v R (Ext.refl _ _) r⟩
    · cases hx
end

/-! ## try -/
structure Hd where
  nm : Str
  c : Value
  oi : Option Nat
  g : SX
def hdRun (ct : Str → Str → Option Bool) (e : Exc) : List (Str × SX) → Option (Option D)
  | [] => some none
  | (x, g) :: r => match ct e.cls x with
    | none => none
    | some true => match g e with
      | some y => some (some y)
      | none => none
    | some false => hdRun ct e r
def sTry (ct : Str → Str → Option Bool) (s : SS) (hs : List (Str × SX)) : SS := fun env M => match s env M with
  | .exc e M1 => match hdRun ct e hs with
    | none => .bad
    | some none => .exc e M1
    | some (some y) => .ok (.ret (.d y)) M1
  | r => r
def Hd.ent (X : Cx) (h : Hd) : Value × Option Nat × (Addr → Value → Option Addr → TS) := (h.c, h.oi, fun a cls d => tRet (rdX (gm X) h.oi a cls d h.g))
/-- the table of the classes holds -/
def CtOk (X : Cx) (ct : Str → Str → Option Bool) (x : Str) (c : Value) : Prop := ∀ ec b, ct ec x = some b → ∀ C, X.mg ec = some (.ref C) → PySem.W.exmOne X.K (.ref C) c = some b
section
variable {X : Cx} {E : WX} {body : List Stmt} {h₀ : ExceptHandler} {hds : List ExceptHandler} {pos : Pos} {s : SS} {l : List Hd} {ct : Str → Str → Option Bool}
theorem hd_run {W Z : Addr → Prop} {φ : List Addr} {H : Hp} {n : Nat} {M : Mem} {D : Ends} {e : Exc} (hct : ∀ h ∈ l, CtOk X ct h.nm h.c) (hsl : ∀ h ∈ l, ∀ i, h.oi = some i → i < n)
    (hr : match hdRun ct e (l.map fun h => (h.nm, h.g)) with
      | none => False
      | some none => RunS (gm X) Z φ W H n (.exc e M) D E
      | some (some y) => RunS (gm X) Z φ W H n (.ok (.ret (.d y)) M) D E) :
    RunS (gm X) Z φ W H n (.exc e M) D (wMix X.K E D (l.map (Hd.ent X))) := by
  intro W' ψ H' c d σ' fin xr hl
  induction l with
  | nil => exact hr W' ψ H' c d σ' fin xr hl
  | cons h r ih =>
    have hC := xr
    obtain ⟨C, h1, h2, h3⟩ := hC
    rw [List.map_cons] at hr
    unfold hdRun at hr
    have key : ∃ b, PySem.W.exmOne X.K c h.c = some b ∧ (b = true → ∃ y, h.g e = some y ∧ RunS (gm X) Z φ W H n (.ok (.ret (.d y)) M) D E) ∧ (b = false → wMix X.K E D (r.map (Hd.ent X)) c d σ' H') := by
      cases e1 : ct e.cls h.nm with
      | none => rw [e1] at hr; exact hr.elim
      | some b =>
        rw [e1] at hr
        refine ⟨b, by rw [h2]; exact hct h List.mem_cons_self _ _ e1 C h1, fun hb => ?_, fun hb => ?_⟩
        · subst hb
          dsimp only at hr
          cases e2 : h.g e with
          | none => rw [e2] at hr; exact hr.elim
          | some y => rw [e2] at hr; exact ⟨y, rfl, hr⟩
        · subst hb
          exact ih (fun g hg => hct g (.tail _ hg)) (fun g hg => hsl g (.tail _ hg)) hr
    obtain ⟨b, hb, hy, hn⟩ := key
    have suite : ∀ (D' : Ends) (σ1 : St) (a : Addr), D'.rt = D.rt → (∀ j, h.oi = some j → σ1[j]? = some (some (.ref a))) → b = true → tRet (rdX (gm X) h.oi a c d h.g) D' σ1 H' := fun D' σ1 a e0 hi hb => by
      obtain ⟨y, e2, q⟩ := hy hb
      show rdX (gm X) h.oi a c d h.g σ1 H' D'.rt
      rw [e0]
      refine ⟨W', Z, φ ++ ψ, M, e, fin.rel, xr, hi, y, e2, fun W2 H2 v R2 x2 r2 => ?_⟩
      refine q W2 ψ H2 v ⟨R2, fin.ext.trans x2, fin.new⟩ ?_
      exact r2
    obtain ⟨nm, hc, oi, g⟩ := h
    cases oi with
    | none => exact ⟨b, hb, fun hb a _ => suite D σ' a rfl (fun j z => by cases z) hb, hn⟩
    | some i => exact ⟨b, hb, fun hb a _ => suite _ _ a rfl (fun j z => by
        cases z
        exact List.getElem?_set_self (by rw [hl]; exact hsl _ List.mem_cons_self i rfl)) hb, hn⟩
theorem gs_try (hs : X.stack = X.env :: X.outer) (hf : X.env.frame = some X.env.locals) (tk : Takes X E)
    (hb : ∀ (W : WX) (pn : List (Addr × Obj)) (xe : Value → Shared → Prop), Takes (X.tr pn xe) W → PassesOwn (model X.prog X.w) X.A X.env xe → GSs (X.tr pn xe) W body s)
    (hh : HdsMx X (h₀ :: hds) (l.map (Hd.ent X))) (hct : ∀ h ∈ l, CtOk X ct h.nm h.c) (hsl : ∀ h ∈ l, ∀ i, h.oi = some i → i < X.N.length) :
    GS X E (.Try body (h₀ :: hds) [] [] pos) (sTry ct s (l.map fun h => (h.nm, h.g))) := by
  have P := ps_try_mix (X := X) (pos := pos) (tb := fun W => rdS (gm X) s W) (Wout := E) hs hf tk hb hh
  refine ⟨fun pins sh σ H D I h => P.run pins sh σ H D I ?_⟩
  have ln := I.len
  obtain ⟨W, Z, φ, env, M, R, Er, h⟩ := h
  refine ⟨W, Z, φ, env, M, R, Er, ?_⟩
  unfold sTry at h
  cases e : s env M with
  | ok fl M1 => rw [e] at h; cases fl <;> exact h
  | bad => rw [e] at h; exact h
  | exc ex M1 =>
    rw [e] at h
    refine hd_run (E := E) hct (fun h hm i hi => by rw [ln]; exact hsl h hm i hi) ?_
    dsimp only at h
    cases e2 : hdRun ct ex (l.map fun h => (h.nm, h.g)) with
    | none => rw [e2] at h; exact h
    | some o =>
      rw [e2] at h
      cases o with
      | none => exact h
      | some y => exact h
end
end Mp

namespace Mp
open PySem L2 PySem.Spec PyProof.Rows

/-! ## functions -/
def initEnv (n : Nat) (avs : List AV) : Env := avs.map (fun a => some a.settle) ++ List.replicate (n - avs.length) none
def finRet (n : Nat) (av : AV) (M : Mem) : Out AV := match av with
  | .cell i => if i < n then .ok (.cell i) (M.take n) else match M[i]? with
    | some (some (.l xs)) => .ok (.fr xs) (M.take n)
    | _ => .bad
  | av => .ok av (M.take n)
def fnRun (np n : Nat) (b : SS) (avs : List AV) (M : Mem) : Out AV :=
  if avs.length = np then match b (initEnv n avs) M with
    | .ok (.ret av) M' => finRet M.length av M'
    | .ok (.next _) M' => .ok (.d .non) (M'.take M.length)
    | .exc e M' => .exc e (M'.take M.length)
    | _ => .bad
  else .bad

section
variable {G : Gm} {W W' Z : Addr → Prop} {φ ψ : List Addr} {H H' : Hp} {M M' : Mem}
theorem Rel.dropTo (R : Rel G W Z (φ ++ ψ) M' H) {n : Nat} (h : φ.length = n) : Rel G W Z φ (M'.take n) H := by
  have hl := R.len
  rw [List.length_append] at hl
  refine ⟨by rw [List.length_take]; omega, (List.nodup_append.mp R.nd).1, R.wt, R.zt, fun i p e => R.sep i p (by rw [List.getElem?_append_left (List.getElem?_eq_some_iff.mp e).1]; exact e), fun i p c e1 e2 => ?_⟩
  have hi := (List.getElem?_eq_some_iff.mp e1).1
  refine R.cell i p c (by rw [List.getElem?_append_left hi]; exact e1) ?_
  rw [List.getElem?_take_of_lt (by omega)] at e2
  exact e2
theorem SRs.at {B : Addr → Prop} : ∀ {avs : List AV} {vs : List V} {i : Nat} {a : AV}, SRs G B φ H avs vs → avs[i]? = some a → ∃ v, vs[i]? = some v ∧ SR G B φ H a v
  | [], [], _, _, _, e => by simp at e
  | [], _ :: _, _, _, h, _ => h.elim
  | _ :: _, [], _, _, h, _ => h.elim
  | x :: xs, y :: ys, 0, a, ⟨h, _⟩, e => by simp at e; subst e; exact ⟨y, rfl, h⟩
  | x :: xs, y :: ys, i + 1, a, ⟨_, h⟩, e => by
    obtain ⟨v, e1, r⟩ := SRs.at (i := i) h (by simpa using e)
    exact ⟨v, by simpa using e1, r⟩
theorem start_env {B : Addr → Prop} {N : List Str} {avs : List AV} {vs : List V} (h : SRs G B φ H avs vs) : EnvR G B φ H (initEnv N.length avs) (L2.start N vs) := by
  have hl := h.length
  refine ⟨by unfold initEnv L2.start; simp [hl], fun i av e => ?_⟩
  unfold initEnv at e
  unfold L2.start
  by_cases hi : i < avs.length
  · rw [List.getElem?_append_left (by simpa using hi), List.getElem?_map] at e
    cases e1 : avs[i]? with
    | none => rw [e1] at e; cases e
    | some a =>
      rw [e1] at e
      cases e
      obtain ⟨v, e2, r⟩ := h.at e1
      refine ⟨v, ?_, r.settle⟩
      rw [List.getElem?_append_left (by rw [List.length_map, ← hl]; exact hi), List.getElem?_map, e2]
      rfl
  · rw [List.getElem?_append_right (by simpa using hi)] at e
    rw [List.getElem?_replicate] at e
    split at e <;> cases e
/-- what leaves a def -/
theorem ret_run {Q : VK} {E : XK} {av : AV} {v : V} (hl : φ.length = M.length) (f : Fin G Z φ W H M' W' ψ H') (r : VR G W' Z (φ ++ ψ) H H' M' av v) (h : Run G Z φ W H (finRet M.length av M') Q E) : Q v H' := by
  have plain : (∀ i, av ≠ .cell i) → (∀ xs, av ≠ .fr xs) → Run G Z φ W H (.ok av (M'.take M.length)) Q E → Q v H' := fun n1 n2 h => by
    refine h W' H' v (f.rel.dropTo hl) f.ext ?_
    cases av with
    | cell i => exact absurd rfl (n1 i)
    | fr xs => exact absurd rfl (n2 xs)
    | d x => exact r
    | scr ns => exact r
  cases av with
  | d x => exact plain (fun _ z => by cases z) (fun _ z => by cases z) h
  | scr x => exact plain (fun _ z => by cases z) (fun _ z => by cases z) h
  | fr xs =>
    obtain ⟨p, vs, e, h0, h1, h2, h3, R2⟩ := r
    exact h W' H' v (f.rel.dropTo hl) f.ext ⟨p, vs, e, h0, h1, h2, h3, R2.dropTo hl⟩
  | cell i =>
    by_cases hi : i < M.length
    · have h : Run G Z φ W H (.ok (.cell i) (M'.take M.length)) Q E := by simpa only [finRet, if_pos hi] using h
      refine h W' H' v (f.rel.dropTo hl) f.ext ?_
      obtain ⟨p, e, rfl⟩ := r
      exact ⟨p, by rw [List.getElem?_append_left (by rw [hl]; exact hi)] at e; exact e, rfl⟩
    · have h : Run G Z φ W H (match M'[i]? with | some (some (.l xs)) => .ok (.fr xs) (M'.take M.length) | _ => .bad) Q E := by simpa only [finRet, if_neg hi] using h
      cases e1 : M'[i]? with
      | none => rw [e1] at h; exact h.elim
      | some oc =>
      cases oc with
      | none => rw [e1] at h; exact h.elim
      | some mc =>
        cases mc with
        | t _ => rw [e1] at h; exact h.elim
        | k _ => rw [e1] at h; exact h.elim
        | l xs =>
        rw [e1] at h
        obtain ⟨p, e, rfl⟩ := r
        obtain ⟨w, vs, hp, rd⟩ := f.rel.cell i p _ e e1
        have hs := f.rel.sep i p e
        have hnew : H p = none := by
          refine f.new p ?_
          rw [List.getElem?_append_right (by rw [hl]; omega)] at e
          exact List.mem_of_getElem? e
        let W2 : Addr → Prop := fun a => W' a ∧ a ≠ p
        have ls : ∀ a, add1 (Bar W2 Z) p a → Bar W' Z a := fun a z => by
          rcases z with (z | z) | z
          · exact .inl z.1
          · exact .inr z
          · subst z; exact .inl w
        have hnp : ∀ j : Nat, φ[j]? ≠ some p := fun j ej => by
          have hj := (List.getElem?_eq_some_iff.mp ej).1
          have e2 : (φ ++ ψ)[j]? = some p := by rw [List.getElem?_append_left hj]; exact ej
          have hk := (List.getElem?_eq_some_iff.mp e).1
          have := (List.getElem?_inj (l := φ ++ ψ) (i := j) (j := i) (by rw [List.length_append]; omega) f.rel.nd).mp (e2.trans e.symm)
          omega
        have R1 : Rel G W' Z φ (M'.take M.length) H' := f.rel.dropTo hl
        have x1 : Ext W' H' W2 H' := Ext.less fun a z => z.1
        have R2 : Rel G W2 (add1 Z p) φ (M'.take M.length) H' := by
          refine ⟨R1.len, R1.nd, fun a z => R1.wt a z.1, fun a z => z.elim (R1.zt a) fun z => by subst z; rw [hp]; simp, fun j q ej => ⟨(R1.sep j q ej).1, fun z => z.elim (R1.sep j q ej).2 fun z => by subst z; exact hnp j ej⟩, fun j q c ej ec => ?_⟩
          obtain ⟨wq, r⟩ := R1.cell j q c ej ec
          have hq : q ≠ p := fun z => by subst z; exact hnp j ej
          refine ⟨⟨wq, hq⟩, r.ext (Ext.less fun a z => ?_) rfl⟩
          rcases z with z | z | z
          · exact .inl z.1
          · exact .inr z
          · subst z; exact .inl w
        exact h W2 H' (.ref p) R2.unbar (f.ext.trans x1) ⟨p, vs, rfl, hnew, hp, fun z => z.elim (fun z => z.2 rfl) hs.2, rd.less ls, R2⟩
end

/-- a def that may be called -/
structure CalD (P : Program) (w : World) (K : PySem.W.Frag) (mg : Str → Option Value) (base : Heap) (k : Nat) (x : Str) (F : List AV → Mem → Out AV) : Prop where
  ex : ∃ f fd ps, mg x = some (.ref f) ∧ PySem.W.keepIn K (.ref f) = true ∧ Binds K fd ps [] ∧ FnOk P w K mg base (L2.CX P w) k f fd ps (spOf ⟨K, mg⟩ F)
theorem CalD.cald {X : Cx} {k : Nat} {x : Str} {F : List AV → Mem → Out AV} (c : CalD X.prog X.w X.K X.mg X.base k x F) : Cald X k x F := ⟨c.ex⟩
theorem CalD.mono {P : Program} {w : World} {K : PySem.W.Frag} {mg : Str → Option Value} {base : Heap} {j k : Nat} {x : Str} {F : List AV → Mem → Out AV} (c : CalD P w K mg base j x F) (h : j ≤ k) : CalD P w K mg base k x F :=
  let ⟨f, fd, ps, h1, h2, h3, h4⟩ := c.ex
  ⟨f, fd, ps, h1, h2, h3, h4.mono h⟩
section
variable {P : Program} {w : World} {K : PySem.W.Frag} {mg : Str → Option Value} {base : Heap} {x : Str} {st : Stmt} {f : Addr} {fd : FuncData} {N ps : List Str} {k : Nat} {b : SS}
abbrev cxf (P : Program) (w : World) (K : PySem.W.Frag) (mg : Str → Option Value) (base : Heap) (N : List Str) (x : Str) (st : Stmt) (f : Addr) (cdv : Value) (A : Around) (outer : List PySem.Env) (s : Shared) (H : Hp) (E : XK) : Cx :=
  cxOf (L2.CX P w) P w K mg base N x (defScope st) f cdv A outer s H E
theorem fn_ok (F : Fun K x x st f fd) (S : FnScope N ps (defScope st))
    (body : ∀ (cdv : Value) (A : Around) (outer : List PySem.Env) (s : Shared) (H : Hp) (E : XK), Room k (A.deeper (envOfC x (defScope st) s.heap.objs.size f cdv)) →
      GSs (cxf P w K mg base N x st f cdv A outer s H E) (fun cls d _ H' => E cls d H') (defBody st) b) : FnOk P w K mg base (L2.CX P w) (k + 1) f fd ps (spOf ⟨K, mg⟩ (fnRun ps.length N.length b)) := by
  refine F.okX S (fun vs H Q E ⟨W, Z, φ, M, avs, R, rs, h⟩ => ?_) (fun cdv A outer s H vs Q E hr ⟨W, Z, φ, M, avs, R, rs, h⟩ => ⟨_, body cdv A outer s H E hr, ?_⟩)
  · unfold fnRun at h
    split at h
    · rename_i e; rw [← rs.length]; exact e
    · exact h.elim
  · unfold fnRun at h
    split at h
    · rename_i hn
      refine ⟨W, Z, φ, initEnv N.length avs, M, R, start_env rs, ?_⟩
      cases e : b (initEnv N.length avs) M with
      | bad => rw [e] at h; exact h.elim
      | exc ex M' =>
        rw [e] at h
        exact fun W' ψ H' c d σ' fin xr _ => h W' H' c d (fin.rel.dropTo R.len) fin.ext xr
      | ok fl M' =>
        rw [e] at h
        cases fl with
        | next e' => exact fun W' ψ H' σ' fin _ _ => h W' H' .non (fin.rel.dropTo R.len) fin.ext (by show RD _ _ _ _ _; exact .non)
        | ret av => exact fun W' ψ H' v fin r => ret_run R.len fin r h
        | brk e' => exact h.elim
        | cont e' => exact h.elim
    · exact h.elim
end

/-! ## the law -/
def spLaw (K : PySem.W.Frag) (n : Nat) : Sp := fun vs H Q _ => ∃ (a : Addr) (ns : List Int), vs = [.ref a] ∧ Only H ∧ SqL K H a (ns.map V.int) ∧ ns.length ≤ n ∧ ∀ H' : Hp, Q (.bl true) H'
theorem law_sp {K : PySem.W.Frag} {mg : Str → Option Value} {n : Nat} {F : List AV → Mem → Out AV} (hF : ∀ ns : List Int, ns.length ≤ n → ∃ M, F [.scr ns] [] = .ok (.d (.bl true)) M) :
    ∀ vs H Q E, spLaw K n vs H Q E → spOf ⟨K, mg⟩ F vs H Q E := by
  rintro vs H Q E ⟨a, ns, rfl, hO, hS, hl, q⟩
  obtain ⟨M, e⟩ := hF ns hl
  refine ⟨fun _ => False, fun _ => False, [], [], [.scr ns], ⟨rfl, List.nodup_nil, fun _ z => z.elim, fun _ z => z.elim, fun i p e => by simp at e, fun i p c e => by simp at e⟩, ⟨⟨a, rfl, ?_⟩, trivial⟩, ?_⟩
  · rcases hS with h | h
    · rcases hO a with z | ⟨o, xs, z⟩
      · rcases h with h | ⟨o, h⟩
        · rw [z] at h; cases h
        · rw [z] at h; cases h
      · rcases h with h | ⟨o', h⟩
        · rw [z] at h; cases h
        · exact .inl ⟨o', h, fun z => z.elim id id⟩
    · exact .inr h
  · rw [e]
    intro W' H' v R x r
    have r : RD _ _ _ (.bl true) v := r
    cases r
    exact q H'
theorem cx_no {P : Program} {w : World} (H : Hp) (s : Shared) (e : Value) (s' : Shared) (h : L2.CX P w [] H s (fun _ _ _ => False) e s') : False := by
  obtain ⟨_, _, _, _, _, _, _, _, _, _, _, _, h⟩ := h
  exact h
end Mp

namespace Mp
open PySem L2 PySem.Spec PyProof.Rows
section
variable {X : Cx} {E : WX} {a b o i v e : Expr} {es : List Expr} {f g fo fi fv : SE} {l : SL} {pos p p2 apos tpos : Pos}
/-! ## the builtins, called -/
section
variable (hc : X.calm = true) (hl : GL X E (e :: es) l) (he : starEach (e :: es) X.env = (false, eval e X.env) :: starEach es X.env) (hpl : (backTo pos (starEach es X.env)).any (·.1) = false)
include hc hl he hpl
theorem gc_len (hg : Gl X "len") (hm : X.mg "len" = none) : GE X E (.Call (.Name "len" p) (e :: es) [] pos) (sArgs lenOp l) :=
  ge_bi (fun h => pe_callB (call_len_seq.or call_len_str) hg hm boot_len h (he := he) (hpl := hpl)) hl fun W Z φ M H avs vs Q E R r h => len_run R r h
theorem gc_all (hg : Gl X "all") (hm : X.mg "all" = none) : GE X E (.Call (.Name "all" p) (e :: es) [] pos) (sArgs allOp l) :=
  ge_bi (fun h => pe_callB (cr_all hc) hg hm boot_all h (he := he) (hpl := hpl)) hl fun W Z φ M H avs vs Q E R r h => all_run R r h
theorem gc_any (hg : Gl X "any") (hm : X.mg "any" = none) : GE X E (.Call (.Name "any" p) (e :: es) [] pos) (sArgs anyOp l) :=
  ge_bi (fun h => pe_callB (cr_any hc) hg hm boot_any h (he := he) (hpl := hpl)) hl fun W Z φ M H avs vs Q E R r h => any_run R r h
theorem gc_sum (hg : Gl X "sum") (hm : X.mg "sum" = none) : GE X E (.Call (.Name "sum" p) (e :: es) [] pos) (sArgs sumOp l) :=
  ge_bi (fun h => pe_callB (cr_sum hc) hg hm boot_sum h (he := he) (hpl := hpl)) hl fun W Z φ M H avs vs Q E R r h => sum_run R r h
theorem gc_max (hg : Gl X "max") (hm : X.mg "max" = none) : GE X E (.Call (.Name "max" p) (e :: es) [] pos) (sArgs maxOp l) :=
  ge_bi (fun h => pe_callB ((cr_max hc).or (call_max2 hc)) hg hm boot_max h (he := he) (hpl := hpl)) hl fun W Z φ M H avs vs Q E R r h => max_run R r h
theorem gc_min (hg : Gl X "min") (hm : X.mg "min" = none) : GE X E (.Call (.Name "min" p) (e :: es) [] pos) (sArgs minOp l) :=
  ge_bi (fun h => pe_callB ((cr_min hc).or (call_min2 hc)) hg hm boot_min h (he := he) (hpl := hpl)) hl fun W Z φ M H avs vs Q E R r h => min_run R r h
theorem gc_abs (hg : Gl X "abs") (hm : X.mg "abs" = none) : GE X E (.Call (.Name "abs" p) (e :: es) [] pos) (sArgs absOp l) :=
  ge_bi (fun h => pe_callB call_abs hg hm boot_abs h (he := he) (hpl := hpl)) hl fun W Z φ M H avs vs Q E R r h => abs_run R r h
theorem gc_int (hg : Gl X "int") (hm : X.mg "int" = none) : GE X E (.Call (.Name "int" p) (e :: es) [] pos) (sArgs intOp l) :=
  ge_bi (fun h => pe_callTy call_int1 hg hm boot_int h (he := he) (hpl := hpl)) hl fun W Z φ M H avs vs Q E R r h => int_run R r h
theorem gc_tuple (hg : Gl X "tuple") (hm : X.mg "tuple" = none) : GE X E (.Call (.Name "tuple" p) (e :: es) [] pos) (sArgs tupleOp l) :=
  ge_bi (fun h => pe_callTy call_tuple_of hg hm boot_tuple h (he := he) (hpl := hpl)) hl fun W Z φ M H avs vs Q E R r h => tuple_run R r h
theorem gc_list (hg : Gl X "list") (hm : X.mg "list" = none) : GE X E (.Call (.Name "list" p) (e :: es) [] pos) (sArgs listOp l) :=
  ge_bi (fun h => pe_callTy call_list_of hg hm boot_list h (he := he) (hpl := hpl)) hl fun W Z φ M H avs vs Q E R r h => list_run R r h
theorem gc_sorted (hg : Gl X "sorted") (hm : X.mg "sorted" = none) : GE X E (.Call (.Name "sorted" p) (e :: es) [] pos) (sArgs sortedOp l) :=
  ge_bi (fun h => pe_callB cr_sortedI hg hm boot_sorted h (he := he) (hpl := hpl)) hl fun W Z φ M H avs vs Q E R r h => sorted_run R r h
theorem gc_str (hg : Gl X "str") (hm : X.mg "str" = none) : GE X E (.Call (.Name "str" p) (e :: es) [] pos) (sArgs strOp l) :=
  ge_bi (fun h => pe_callTy (call_str_int.or SkE.call_str_str) hg hm boot_str h (he := he) (hpl := hpl)) hl fun W Z φ M H avs vs Q E R r h => str_run R r h
end
/-! ## slices -/
theorem gk_00 (ha : GE X E a f) : GE X E (.Subscript a (.Slice none none none p2) pos) (sSlice f none none) :=
  ge_slice ha po_none po_none (fun _ => ⟨rfl, rfl⟩) (fun e h => by cases h) (fun _ => ⟨rfl, rfl⟩) (fun e h => by cases h)
theorem gk_10 (ha : GE X E a f) (hb : GE X E b g) : GE X E (.Subscript a (.Slice (some b) none none p2) pos) (sSlice f (some g) none) :=
  ge_slice ha (po_some hb) po_none (fun h => by cases h) (fun e h => by cases h; exact ⟨g, rfl, rfl⟩) (fun _ => ⟨rfl, rfl⟩) (fun e h => by cases h)
theorem gk_01 (ha : GE X E a f) (hb : GE X E b g) : GE X E (.Subscript a (.Slice none (some b) none p2) pos) (sSlice f none (some g)) :=
  ge_slice ha po_none (po_some hb) (fun _ => ⟨rfl, rfl⟩) (fun e h => by cases h) (fun h => by cases h) (fun e h => by cases h; exact ⟨g, rfl, rfl⟩)
theorem gk_11 {c : Expr} {h : SE} (ha : GE X E a f) (hb : GE X E b g) (hc : GE X E c h) : GE X E (.Subscript a (.Slice (some b) (some c) none p2) pos) (sSlice f (some g) (some h)) :=
  ge_slice ha (po_some hb) (po_some hc) (fun h => by cases h) (fun e h => by cases h; exact ⟨g, rfl, rfl⟩) (fun h => by cases h) (fun e hh => by cases hh; exact ⟨h, rfl, rfl⟩)
/-! ## constants -/
theorem gn_int {n : Int} {j : Nat} : GE X E (.Constant (.int n) j pos) (sCon (.int n)) := ge_con pe_int fun _ _ => .int n
theorem gn_bl {n : Bool} {j : Nat} : GE X E (.Constant (.bool n) j pos) (sCon (.bl n)) := ge_con pe_bl fun _ _ => .bl n
theorem gn_str {n : Str} {j : Nat} : GE X E (.Constant (.str n) j pos) (sCon (.str n)) := ge_con pe_str fun _ _ => .str n
theorem gn_non {j : Nat} : GE X E (.Constant .none j pos) (sCon .non) := ge_con pe_non fun _ _ => .non
/-- a constant of the module -/
structure Cst (G : Gm) (x : Str) (d : D) : Prop where
  ex : ∃ (u : Value) (v : V), G.mg x = some u ∧ RelV v u ∧ ∀ B H, RD G B H d v
theorem Cst.of_int {G : Gm} {x : Str} {n : Int} {t : Tok} (h : G.mg x = some (.int n t)) : Cst G x (.int n) := ⟨⟨_, .int n, h, ⟨t, rfl⟩, fun _ _ => .int n⟩⟩
theorem Cst.of_str {G : Gm} {x : Str} {n : Str} {t : Tok} (h : G.mg x = some (.str n t)) : Cst G x (.str n) := ⟨⟨_, .str n, h, ⟨t, rfl⟩, fun _ _ => .str n⟩⟩
theorem ge_cst {x : Str} {d : D} (c : Cst (gm X) x d) (hg : Gl X x) (hd : (x == ("__debug__" : Str)) = false) : GE X E (.Name x pos) (sCon d) := by
  obtain ⟨u, v, h1, h2, h3⟩ := c.ex
  exact ge_con (pe_glob hg h1 h2 hd) h3
/-! ## stores -/
theorem gs_setI' (hv : GE X E v fv) (ho : GE X E o fo) (hi : GE X E i fi) (hs : swapsWithSole [.Subscript o i tpos] v pos.line X.env = pure false) (hw : swappedStores [.Subscript o i tpos] v X.env = pure none)
    (h1 : (assignEach [.Subscript o i tpos] X.env).map (·.2) = [assign (.Subscript o i tpos) X.env])
    (ha : ∀ v, assign (.Subscript o i tpos) X.env v = (do
      let ov ← holding [v] (eval o X.env)
      let iv ← holding [v, ov] (eval i X.env)
      standAt tpos
      holding [v, ov, iv] (setItem ov iv v)
      release [v, ov, iv] [])) : GS X E (.Assign [.Subscript o i tpos] v pos) (sSetI fo fi fv) := gs_setI hv ho hi hs hw h1 fun h1 h2 => pg_sub h1 h2 set_list ha

section
variable (ho : GE X E o fo) (hl : GL X E (e :: es) l)
include ho hl
theorem gm_append (hbase : attributeBase o "append" X.env (eval o X.env) = eval o X.env)
    (hfew : ((backTo pos (starEach (e :: es) X.env)).all (fun x => !x.1) && (backToKw pos (keywordEach [] X.env)).all (fun x => x.1.isSome) && decide ((e :: es).length + ([] : List Keyword).length + (if ([] : List Keyword).isEmpty then 0 else 1) < 30)) = true)
    (hline : (apos.endLine == pos.line) = true) (hs : starEach (e :: es) X.env = (false, eval e X.env) :: starEach es X.env) (hplain : (backTo pos (starEach es X.env)).any (·.1) = false) :
    GE X E (.Call (.Attribute o "append" apos) (e :: es) [] pos) (sMeth mAppend fo l) :=
  ge_meth ho hl (fun h1 h2 => pe_bm F.plainAttrs_list F.slot_list_append F.type_list_append mt_append h1 h2 (hbase := hbase) (hfew := hfew) (hline := hline) (hs := hs) (hplain := hplain)) fun W Z φ M H avs vs R ra => append_ok W Z φ M H avs vs R ra
theorem gm_extend (hbase : attributeBase o "extend" X.env (eval o X.env) = eval o X.env)
    (hfew : ((backTo pos (starEach (e :: es) X.env)).all (fun x => !x.1) && (backToKw pos (keywordEach [] X.env)).all (fun x => x.1.isSome) && decide ((e :: es).length + ([] : List Keyword).length + (if ([] : List Keyword).isEmpty then 0 else 1) < 30)) = true)
    (hline : (apos.endLine == pos.line) = true) (hs : starEach (e :: es) X.env = (false, eval e X.env) :: starEach es X.env) (hplain : (backTo pos (starEach es X.env)).any (·.1) = false) :
    GE X E (.Call (.Attribute o "extend" apos) (e :: es) [] pos) (sMeth mExtend fo l) :=
  ge_meth ho hl (fun h1 h2 => pe_bm F.plainAttrs_list F.slot_list_extend F.type_list_extend mt_extend h1 h2 (hbase := hbase) (hfew := hfew) (hline := hline) (hs := hs) (hplain := hplain)) fun W Z φ M H avs vs R ra => extend_ok W Z φ M H avs vs R ra
end
end
end Mp

namespace Mp
open PySem L2 PySem.Spec PyProof.Rows
section
variable {X : Cx} {E : WX} {e : Expr} {es : List Expr} {f : SE} {l : SL} {pos : Pos}
/-- the name in the slot i -/
theorem gv (i : Nat) {x : Str} (hN : X.N[i]? = some x := by rfl) (hv : Vis X.env.scope x := by first | exact Or.inl rfl | exact Or.inr (Or.inl rfl) | exact Or.inr (Or.inr rfl)) (hd : (x == ("__debug__" : Str)) = false := by decide)
    (hcd : (x == ("__classdict__" : Str)) = false := by decide) : GE X E (.Name x pos) (sVar i) := ge_var hN hv hd hcd
theorem gl_one (he : GE X E e f) (hs : starEach [e] X.env = (false, eval e X.env) :: starEach [] X.env := by rfl) : GL X E [e] (sCons f sNil) := gl_cons hs he gl_nil
theorem gl_more (he : GE X E e f) (hl : GL X E es l) (hs : starEach (e :: es) X.env = (false, eval e X.env) :: starEach es X.env := by rfl) : GL X E (e :: es) (sCons f l) := gl_cons hs he hl
theorem sl_nil : ∀ (env : Env) (M : Mem) (avs : List AV) (M' : Mem), sNil env M = .ok avs M' → avs.length = 0 := fun env M avs M' h => by cases h; rfl
theorem sl_cons {n : Nat} (h : ∀ (env : Env) (M : Mem) (avs : List AV) (M' : Mem), l env M = .ok avs M' → avs.length = n) : ∀ (env : Env) (M : Mem) (avs : List AV) (M' : Mem), sCons f l env M = .ok avs M' → avs.length = n + 1 := fun env M avs M' e => by
  unfold sCons at e
  cases e1 : f env M with
  | bad => rw [e1] at e; cases e
  | exc _ _ => rw [e1] at e; cases e
  | ok x M1 =>
    rw [e1, Out.bind_ok] at e
    cases e2 : l env M1 with
    | bad => rw [e2] at e; cases e
    | exc _ _ => rw [e2] at e; cases e
    | ok xs M2 =>
      rw [e2, Out.bind_ok] at e
      have z := h _ _ _ _ e2
      cases e
      simp [z]
theorem takesW {X : Cx} : Takes X FW := L2.takes0
/-- an own class that an except clause names -/
theorem names_own {x : Str} {C : Addr} (hg : Gl X x) (hm : X.mg x = some (.ref C)) (hd : (x == ("__debug__" : Str)) = false) : Names X x (.ref C) := ⟨hg, hd, .inl hm⟩
theorem exm_of {K : PySem.W.Frag} {C D : Addr} {b : Bool} (h1 : PySem.W.subIn K (.ref D) (.type "BaseException") = some true) (h2 : PySem.W.isClsIn K D = true) (h3 : PySem.W.typeIn K (.ref D) = some (.type "type")) (h4 : PySem.W.subIn K (.ref C) (.ref D) = some b) :
    PySem.W.exmOne K (.ref C) (.ref D) = some b := by
  have e1 : (PySem.W.subIn K (.ref D) (.type "BaseException") == some true) = true := by rw [h1] <;> rfl
  have e2 : ((PySem.W.clsIn K D).isSome && PySem.W.typeIn K (.ref D) == some (.type "type")) = true := by
    have h2' : (PySem.W.clsIn K D).isSome = true := h2
    rw [h2', h3] <;> rfl
  show (if (PySem.W.subIn K (.ref D) (.type "BaseException") == some true) = true then (if ((PySem.W.clsIn K D).isSome && PySem.W.typeIn K (.ref D) == some (.type "type")) = true then PySem.W.subIn K (.ref C) (.ref D) else none) else none) = some b
  rw [if_pos e1, if_pos e2]
  exact h4
/-- which class is which: the two own ones -/
def ctE : Str → Str → Option Bool := fun e h =>
  if e = "Malformed" then (if h = "Malformed" then some true else if h = "Refused" then some false else none)
  else if e = "Refused" then (if h = "Malformed" then some false else if h = "Refused" then some true else none)
  else none
structure Errs (P : Program) (K : PySem.W.Frag) (mg : Str → Option Value) (CM CR fR : Addr) : Prop where
  ref : PySem.RefX.RefTxt P K mg "Refused" CR fR
  gM : mg "Malformed" = some (.ref CM)
  xM : PySem.W.excIn K CM [.type "ValueError", .type "Exception", .type "BaseException", .type "object"] "ValueError.__new__" = true
  kM : PySem.W.keepIn K (.ref CM) = true
  bM : PySem.W.subIn K (.ref CM) (.type "BaseException") = some true
  tM : PySem.W.typeIn K (.ref CM) = some (.type "type")
  iM : PySem.W.isClsIn K CM = true
  iR : PySem.W.isClsIn K CR = true
  sMM : PySem.W.subIn K (.ref CM) (.ref CM) = some true
  sMR : PySem.W.subIn K (.ref CM) (.ref CR) = some false
  sRM : PySem.W.subIn K (.ref CR) (.ref CM) = some false
  sRR : PySem.W.subIn K (.ref CR) (.ref CR) = some true
  fld : XfC K CR
section
variable {CM CR fR : Addr} {j k : Nat} {m : Str} {p p2 pos2 : Pos}
theorem Errs.ctM (T : Errs X.prog X.K X.mg CM CR fR) : CtOk X ctE "Malformed" (.ref CM) := fun ec b h C hC => by
  unfold ctE at h
  split at h
  · rename_i e
    subst e
    rw [if_pos rfl] at h
    cases h
    have := T.gM.symm.trans hC
    cases this
    exact exm_of T.bM T.iM T.tM T.sMM
  · split at h
    · rename_i e
      subst e
      rw [if_pos rfl] at h
      cases h
      have := T.ref.gC.symm.trans hC
      cases this
      exact exm_of T.bM T.iM T.tM T.sRM
    · cases h
theorem Errs.ctR (T : Errs X.prog X.K X.mg CM CR fR) : CtOk X ctE "Refused" (.ref CR) := fun ec b h C hC => by
  have n : ¬ ("Refused" : Str) = "Malformed" := by decide
  unfold ctE at h
  split at h
  · rename_i e
    subst e
    rw [if_pos rfl] at h
    cases h
    have := T.gM.symm.trans hC
    cases this
    exact exm_of T.ref.exC T.iR T.ref.tyC T.sMR
  · split at h
    · rename_i e
      subst e
      rw [if_pos rfl] at h
      cases h
      have := T.ref.gC.symm.trans hC
      cases this
      exact exm_of T.ref.exC T.iR T.ref.tyC T.sRR
    · cases h
theorem gs_rM (T : Errs X.prog X.K X.mg CM CR fR) (hc : X.calm = true) (tk : Takes X E) (hg : Gl X "Malformed") : GS X E (.Raise (some (.Call (.Name "Malformed" p) [.Constant (.str m) j p2] [] pos)) none pos2) (sRaise "Malformed" []) :=
  gs_raiseM hc tk T.xM T.gM T.kM (raises_own T.bM T.tM) hg (by decide)
theorem gs_rR (T : Errs X.prog X.K X.mg CM CR fR) (hc : X.calm = true) (tk : Takes X E) (hr : Room k X.A) (hg : Gl X "Refused") : GS X E (.Raise (some (.Call (.Name "Refused" p) [.Constant (.str m) j p2] [] pos)) none pos2) (sRaise "Refused" [("reason", .str m)]) :=
  gs_raiseR hc tk T.ref hr hg (by decide) rfl
/-! ### the suites -/
theorem gsu {Y G : _} {oi : Option Nat} {a : Addr} {cls : Value} {d : Option Addr} {g : SX} {e : Expr} {pos : Pos} (h : GX Y G oi a cls d e g) : PSs Y [.Return (some e) pos] (tRet (rdX G oi a cls d g)) := pss_one (ps_ret h)
theorem gx_int {Y G : _} {oi : Option Nat} {a : Addr} {cls : Value} {d : Option Addr} {n : Int} {j : Nat} : GX Y G oi a cls d (.Constant (.int n) j pos) (fun _ => some (.int n)) := gx_con pe_int fun _ _ => .int n
theorem gx_bl {Y G : _} {oi : Option Nat} {a : Addr} {cls : Value} {d : Option Addr} {n : Bool} {j : Nat} : GX Y G oi a cls d (.Constant (.bool n) j pos) (fun _ => some (.bl n)) := gx_con pe_bl fun _ _ => .bl n
theorem gx_str {Y G : _} {oi : Option Nat} {a : Addr} {cls : Value} {d : Option Addr} {n : Str} {j : Nat} : GX Y G oi a cls d (.Constant (.str n) j pos) (fun _ => some (.str n)) := gx_con pe_str fun _ _ => .str n
theorem gx_non {Y G : _} {oi : Option Nat} {a : Addr} {cls : Value} {d : Option Addr} {j : Nat} : GX Y G oi a cls d (.Constant .none j pos) (fun _ => some .non) := gx_con pe_non fun _ _ => .non
/-- a tuple of two -/
def xTup2 (f g : SX) : SX := fun ex => match f ex, g ex with
  | some x, some y => some (.tup [x, y])
  | _, _ => none
theorem gx_tup2 {Y : Cx} {G : Gm} {oi : Option Nat} {a : Addr} {cls : Value} {d : Option Addr} {e1 e2 : Expr} {f g : SX} {k : Nat} (h1 : GX Y G oi a cls d e1 f) (h2 : GX Y G oi a cls d e2 g) (s1 : starEach [e1, e2] Y.env = (false, eval e1 Y.env) :: starEach [e2] Y.env) (s2 : starEach [e2] Y.env = (false, eval e2 Y.env) :: starEach [] Y.env) :
    GX Y G oi a cls d (.Tuple [e1, e2] k pos) (xTup2 f g) := by
  have h := gx_tup (k := k) (pos := pos) (gx_cons h1 (gx_cons h2 gx_nil s2) s1) (by simp) (fun ex xs h => by
    cases e1 : f ex with
    | none => rw [e1] at h; cases h
    | some x =>
      cases e2 : g ex with
      | none => rw [e1, e2] at h; cases h
      | some y => rw [e1, e2] at h; cases h; rfl)
  have e : (fun ex => Option.map D.tup (match f ex, (match g ex, (some [] : Option (List D)) with | some x, some xs => some (x :: xs) | _, _ => none) with | some x, some xs => some (x :: xs) | _, _ => none)) = xTup2 f g := by
    funext ex
    unfold xTup2
    cases f ex with
    | none => rfl
    | some x => cases g ex <;> rfl
  rw [← e]
  exact h
def xFld (nC f : Str) : SX := fun ex => if ex.cls = nC then ex.fs.lookup f else none
theorem gx_reason (T : Errs X.prog X.K X.mg CM CR fR) {i : Nat} {a : Addr} {oe : Obj} {cls : Value} {d : Option Addr} {pn : List (Addr × Obj)} {n : Str} (hz : Zc cls d oe) (hf : ∃ vs, oe.data = .fields vs) (hN : X.N[i]? = some n) (hv : Vis X.env.scope n) (hd : (n == ("__debug__" : Str)) = false) (hcd : (n == ("__classdict__" : Str)) = false)
    (hb : attributeBase (.Name n p) "reason" X.env (eval (.Name n p) X.env) = eval (.Name n p) X.env) :
    GX (X.suite a ((a, oe) :: pn)) (gm X) (some i) a cls d (.Attribute (.Name n p) "reason" pos) (xFld "Refused" "reason") := gx_fld T.fld T.ref.noN T.ref.gC hz hf hN hv hd hcd hb
end
end

theorem tg_len0 : ∀ (ds : List D) (env env' : Env), Tg.nil.bind (.tup ds) env = some env' → ds.length = 0 := fun ds env env' h => by
  cases ds with
  | nil => rfl
  | cons _ _ => cases h
theorem tg_lenS {t u : Tg} {n : Nat} (k : ∀ (ds : List D) (env env' : Env), u.bind (.tup ds) env = some env' → ds.length = n) : ∀ (ds : List D) (env env' : Env), (Tg.cons t u).bind (.tup ds) env = some env' → ds.length = n + 1 := fun ds env env' h => by
  cases ds with
  | nil => cases h
  | cons d ds =>
    unfold Tg.bind at h
    split at h
    · rename_i e; rw [List.length_cons, k _ _ _ h]
    · cases h
end Mp

namespace Mp
open PySem

/-! ## stepping through a body, in plain Lean -/
def el {α β : Type} (r : Out α) (k : α → Mem → Out β) (kx : Exc → Mem → Out β) : Out β := match r with
  | .ok a M => k a M
  | .exc e M => kx e M
  | .bad => .bad
theorem el_bind {α β γ : Type} (r : Out α) (g : α → Mem → Out β) (k : β → Mem → Out γ) (kx : Exc → Mem → Out γ) : el (r.bind g) k kx = el r (fun a M => el (g a M) k kx) kx := by cases r <;> rfl
def optK {α β : Type} (o : Option α) (k : α → Out β) : Out β := match o with
  | some a => k a
  | none => .bad
def flK {β : Type} (fl : Fl) (M : Mem) (kn : Env → Mem → Out β) (k : Fl → Mem → Out β) : Out β := match fl with
  | .next e => kn e M
  | .ret v => k (.ret v) M
  | .brk e => k (.brk e) M
  | .cont e => k (.cont e) M
def endK (n : Nat) (fl : Fl) (M : Mem) : Out AV := match fl with
  | .ret av => finRet n av M
  | .next _ => .ok (.d .non) (M.take n)
  | _ => .bad
def stK {β : Type} (x : AV) (k : AV → Out β) : Out β := k x.settle
def tupK {β : Type} (avs : List AV) (M : Mem) (c : List D → AV) (k : AV → Mem → Out β) : Out β := match keepDs avs M with
  | some (xs, M2) => if xs.length ≤ sizeLine then k (c xs) M2 else .bad
  | none => .bad
theorem el_id {α : Type} (r : Out α) : el r (fun a M => .ok a M) (fun e M => .exc e M) = r := by cases r <;> rfl
section
variable {β : Type} {kx : Exc → Mem → Out β} {res : Out β} {env : Env} {M : Mem}
section
variable {α : Type} {k : α → Mem → Out β}
theorem e_ok {a : α} (h : k a M = res) : el (.ok a M) k kx = res := h
theorem e_exc {e : Exc} (h : kx e M = res) : el (.exc e M : Out α) k kx = res := h
theorem e_eq {r r' : Out α} (e : r = r') (h : el r' k kx = res) : el r k kx = res := by rw [e]; exact h
theorem e_guard {b : Bool} {r : Out α} (e : b = true) (h : el r k kx = res) : el (guard b r) k kx = res := by unfold guard; rw [if_pos e]; exact h
theorem e_if {p : Prop} [Decidable p] {r r' : Out α} (h1 : p → el r k kx = res) (h2 : ¬ p → el r' k kx = res) : el (if p then r else r') k kx = res := by
  split
  · exact h1 (by assumption)
  · exact h2 (by assumption)
end
/-! ### defs -/
theorem e_fn {np n : Nat} {b : SS} {avs : List AV} {r : Out AV} (hl : avs.length = np)
    (h : el (b (initEnv n avs) M) (fun fl M' => endK M.length fl M') (fun e M' => .exc e (M'.take M.length)) = r) : fnRun np n b avs M = r := by
  unfold fnRun
  rw [if_pos hl, ← h]
  cases b (initEnv n avs) M with
  | ok fl M' => cases fl <;> rfl
  | exc e M' => rfl
  | bad => rfl
/-! ### statements -/
section
variable {k : Fl → Mem → Out β} {f g : SE} {s t : SS} {c : SB}
theorem e_skip (h : k (.next env) M = res) : el (sSkip env M) k kx = res := h
theorem e_seq (h : el (s env M) (fun fl M1 => flK fl M1 (fun e M2 => el (t e M2) k kx) k) kx = res) : el (sSeq2 s t env M) k kx = res := by
  rw [← h]
  unfold sSeq2
  rw [el_bind]
  congr
  funext fl M1
  cases fl <;> rfl
theorem e_ret (h : el (f env M) (fun x M1 => k (.ret x) M1) kx = res) : el (sRet f env M) k kx = res := by rw [← h]; exact el_bind _ _ _ _
theorem e_retN (h : k (.ret (.d .non)) M = res) : el (sRetN env M) k kx = res := h
theorem e_expr (h : el (f env M) (fun _ M1 => k (.next env) M1) kx = res) : el (sExpr f env M) k kx = res := by rw [← h]; exact el_bind _ _ _ _
theorem e_brk (h : k (.brk env) M = res) : el (sBrk env M) k kx = res := h
theorem e_cont (h : k (.cont env) M = res) : el (sCont env M) k kx = res := h
theorem e_raise {x : Str} {fs : List (Str × D)} (h : kx ⟨x, fs⟩ M = res) : el (sRaise x fs env M) k kx = res := h
theorem e_ifS (h : el (c env M) (fun b M1 => cond b (el (s env M1) k kx) (el (t env M1) k kx)) kx = res) : el (sIfS c s t env M) k kx = res := by
  rw [← h]
  unfold sIfS
  rw [el_bind]
  congr
  funext b M1
  cases b <;> rfl
theorem e_cond {b : Bool} {r r' : Out β} (h1 : b = true → r = res) (h2 : b = false → r' = res) : cond b r r' = res := by cases b with
  | true => exact h1 rfl
  | false => exact h2 rfl
theorem e_condT {r r' : Out β} (h : r = res) : cond true r r' = res := h
theorem e_condF {r r' : Out β} (h : r' = res) : cond false r r' = res := h
theorem e_condP {p : Prop} [Decidable p] {r r' : Out β} (h1 : p → r = res) (h2 : ¬ p → r' = res) : cond (decide p) r r' = res := by
  by_cases h : p
  · rw [decide_eq_true h]; exact h1 h
  · rw [decide_eq_false h]; exact h2 h
theorem e_condPT {p : Prop} [Decidable p] {r r' : Out β} (h : p) (h1 : r = res) : cond (decide p) r r' = res := by rw [decide_eq_true h]; exact h1
theorem e_condPF {p : Prop} [Decidable p] {r r' : Out β} (h : ¬ p) (h1 : r' = res) : cond (decide p) r r' = res := by rw [decide_eq_false h]; exact h1
theorem e_condNT {p : Prop} [Decidable p] {r r' : Out β} (h : ¬ p) (h1 : r = res) : cond (!decide p) r r' = res := by rw [decide_eq_false h]; exact h1
theorem e_condNF {p : Prop} [Decidable p] {r r' : Out β} (h : p) (h1 : r' = res) : cond (!decide p) r r' = res := by rw [decide_eq_true h]; exact h1
theorem e_condTe {b : Bool} {r r' : Out β} (h : b = true) (h1 : r = res) : cond b r r' = res := by rw [h]; exact h1
theorem e_condFe {b : Bool} {r r' : Out β} (h : b = false) (h1 : r' = res) : cond b r r' = res := by rw [h]; exact h1
theorem e_condN {p : Prop} [Decidable p] {r r' : Out β} (h1 : ¬ p → r = res) (h2 : p → r' = res) : cond (!decide p) r r' = res := by
  by_cases h : p
  · rw [decide_eq_true h]; exact h2 h
  · rw [decide_eq_false h]; exact h1 h
/-- a value stored -/
def asgK (i : Nat) (m : Bool) (x : AV) (env : Env) (M : Mem) (k : Fl → Mem → Out β) : Out β := k (.next (asgAV i m x env M).1) (asgAV i m x env M).2
theorem e_asg {i : Nat} {m : Bool} (h : el (f env M) (fun x M1 => asgK i m x env M1 k) kx = res) : el (sAsg i m f env M) k kx = res := by rw [← h]; exact el_bind _ _ _ _
theorem a_d {i : Nat} {m : Bool} {x : D} (h : k (.next (env.set i (some (.d x)))) M = res) : asgK i m (.d x) env M k = res := by cases m <;> exact h
theorem a_c {i : Nat} {m : Bool} {c : Nat} (h : k (.next (env.set i (some (.cell c)))) M = res) : asgK i m (.cell c) env M k = res := by cases m <;> exact h
theorem a_f {i : Nat} {xs : List D} (h : k (.next (env.set i (some (.d (.lst xs))))) M = res) : asgK i false (.fr xs) env M k = res := h
theorem a_m {i : Nat} {xs : List D} (h : k (.next (env.set i (some (.cell M.length)))) (M ++ [some (.l xs)]) = res) : asgK i true (.fr xs) env M k = res := h
def asgP (i : Nat) (m : Bool) (x : AV) (env : Env) (M : Mem) (k : Env → Mem → Out β) : Out β := k (asgAV i m x env M).1 (asgAV i m x env M).2
theorem ap_d {k : Env → Mem → Out β} {i : Nat} {m : Bool} {x : D} (h : k (env.set i (some (.d x))) M = res) : asgP i m (.d x) env M k = res := by cases m <;> exact h
theorem ap_c {k : Env → Mem → Out β} {i : Nat} {m : Bool} {c : Nat} (h : k (env.set i (some (.cell c))) M = res) : asgP i m (.cell c) env M k = res := by cases m <;> exact h
theorem ap_f {k : Env → Mem → Out β} {i : Nat} {xs : List D} (h : k (env.set i (some (.d (.lst xs)))) M = res) : asgP i false (.fr xs) env M k = res := h
theorem ap_m {k : Env → Mem → Out β} {i : Nat} {xs : List D} (h : k (env.set i (some (.cell M.length))) (M ++ [some (.l xs)]) = res) : asgP i true (.fr xs) env M k = res := h
theorem e_par2 {i j : Nat} {m n : Bool} (h : el (f env M) (fun x M1 => asgP i m x env M1 fun e1 M2 => el (g env M2) (fun y M3 => asgK j n y e1 M3 k) kx) kx = res) : el (sPar2 i j m n f g env M) k kx = res := by
  rw [← h]
  unfold sPar2
  rw [el_bind]
  congr
  funext x M1
  rw [el_bind]
  rfl
theorem e_par3 {h3 : SE} {i j l : Nat} {m n o : Bool} (h : el (f env M) (fun x M1 => asgP i m x env M1 fun e1 M2 => el (g env M2) (fun y M3 => asgP j n y e1 M3 fun e2 M4 => el (h3 env M4) (fun z M5 => asgK l o z e2 M5 k) kx) kx) kx = res) : el (sPar3 i j l m n o f g h3 env M) k kx = res := by
  rw [← h]
  unfold sPar3
  rw [el_bind]
  congr
  funext x M1
  rw [el_bind]
  show el (g env _) _ kx = el (g env _) _ kx
  congr
  funext y M2
  rw [el_bind]
  rfl
theorem k_next {fl : Env} {kn : Env → Mem → Out β} (h : kn fl M = res) : flK (.next fl) M kn k = res := h
theorem k_ret {v : AV} {kn : Env → Mem → Out β} (h : k (.ret v) M = res) : flK (.ret v) M kn k = res := h
theorem k_brk {v : Env} {kn : Env → Mem → Out β} (h : k (.brk v) M = res) : flK (.brk v) M kn k = res := h
theorem k_cont {v : Env} {kn : Env → Mem → Out β} (h : k (.cont v) M = res) : flK (.cont v) M kn k = res := h
def tgK (tg : Tg) (x : AV) (env : Env) (k : Env → Out β) : Out β := match x with
  | .d d => optK (tg.bind d env) k
  | _ => .bad
theorem e_asgT {tg : Tg} (h : el (f env M) (fun x M1 => tgK tg x env (fun e => k (.next e) M1)) kx = res) : el (sAsgT tg f env M) k kx = res := by
  rw [← h]
  unfold sAsgT
  rw [el_bind]
  congr
  funext x M1
  cases x with
  | d d =>
    show el (match tg.bind d env with | some e => .ok (.next e) M1 | none => .bad) k kx = optK (tg.bind d env) _
    cases tg.bind d env <;> rfl
  | _ => rfl
theorem g_d {tg : Tg} {d : D} {e : Env} {k : Env → Out β} (q : tg.bind d env = some e) (h : k e = res) : tgK tg (.d d) env k = res := by
  unfold tgK optK
  dsimp only
  rw [q]
  exact h
def hdK (o : Option (Option D)) (e : Exc) (M : Mem) (k : Fl → Mem → Out β) (kx : Exc → Mem → Out β) : Out β := match o with
  | none => .bad
  | some none => kx e M
  | some (some y) => k (.ret (.d y)) M
theorem e_tryS {ct : Str → Str → Option Bool} {hs : List (Str × SX)} (h : el (s env M) k (fun e M1 => hdK (hdRun ct e hs) e M1 k kx) = res) : el (sTry ct s hs env M) k kx = res := by
  rw [← h]
  unfold sTry
  cases s env M with
  | ok _ _ => rfl
  | bad => rfl
  | exc e M1 =>
    show el (match hdRun ct e hs with | none => .bad | some none => .exc e M1 | some (some y) => .ok (.ret (.d y)) M1) k kx = hdK (hdRun ct e hs) e M1 k kx
    cases hdRun ct e hs with
    | none => rfl
    | some o => cases o <;> rfl
theorem h_some {e : Exc} {y : D} {o : Option (Option D)} (q : o = some (some y)) (h : k (.ret (.d y)) M = res) : hdK o e M k kx = res := by rw [q]; exact h
end
/-! ### values -/
section
variable {k : AV → Mem → Out β} {f g : SE} {l : SL} {c : SB}
theorem e_var {i : Nat} {x : D} (e : env[i]? = some (some (.d x))) (h : k (.d x) M = res) : el (sVar i env M) k kx = res := by unfold sVar; rw [e]; exact h
theorem e_varC {i : Nat} {x : Nat} (e : env[i]? = some (some (.cell x))) (h : k (.cell x) M = res) : el (sVar i env M) k kx = res := by unfold sVar; rw [e]; exact h
theorem e_varS {i : Nat} {x : List Int} (e : env[i]? = some (some (.scr x))) (h : k (.scr x) M = res) : el (sVar i env M) k kx = res := by unfold sVar; rw [e]; exact h
theorem e_con {d : D} (h : k (.d d) M = res) : el (sCon d env M) k kx = res := h
theorem e_bin {op : Operator} (h : el (f env M) (fun x M1 => el (g env M1) (fun y M2 => el (binop op (opnd M2 x) (opnd M2 y) M2) k kx) kx) kx = res) : el (sBin op f g env M) k kx = res := by
  rw [← h]
  unfold sBin sTwo
  rw [el_bind]
  congr
  funext x M1
  rw [el_bind]
theorem e_cmp {op : CmpOp} (h : el (f env M) (fun x M1 => el (g env M1) (fun y M2 => el (cmpop op x y M2) k kx) kx) kx = res) : el (sCmp op f g env M) k kx = res := by
  rw [← h]
  unfold sCmp sTwo
  rw [el_bind]
  congr
  funext x M1
  rw [el_bind]
theorem e_idx (h : el (f env M) (fun x M1 => el (g env M1) (fun y M2 => el (idx x y M2) k kx) kx) kx = res) : el (sIdx f g env M) k kx = res := by
  rw [← h]
  unfold sIdx sTwo
  rw [el_bind]
  congr
  funext x M1
  rw [el_bind]
theorem e_neg (h : el (f env M) (fun x M1 => el (negOp x M1) k kx) kx = res) : el (sNeg f env M) k kx = res := by rw [← h]; exact el_bind _ _ _ _
theorem e_isi {us : List String} (h : el (f env M) (fun x M1 => el (isiOp us x M1) k kx) kx = res) : el (sIsi us f env M) k kx = res := by rw [← h]; exact el_bind _ _ _ _
theorem e_args {F : List AV → Mem → Out AV} (h : el (l env M) (fun avs M1 => el (F avs M1) k kx) kx = res) : el (sArgs F l env M) k kx = res := by rw [← h]; exact el_bind _ _ _ _
theorem e_tup (h : el (l env M) (fun avs M1 => tupK avs M1 (fun xs => .d (.tup xs)) k) kx = res) : el (sTup l env M) k kx = res := by
  rw [← h]
  unfold sTup
  rw [el_bind]
  congr
  funext avs M1
  unfold tupK
  cases keepDs avs M1 with
  | none => rfl
  | some p =>
    obtain ⟨xs, M2⟩ := p
    dsimp only
    unfold guard
    by_cases hl : xs.length ≤ sizeLine
    · rw [if_pos (decide_eq_true hl), if_pos hl]; rfl
    · rw [if_neg (by simpa using hl), if_neg hl]; rfl
theorem e_lst (h : el (l env M) (fun avs M1 => tupK avs M1 .fr k) kx = res) : el (sLst l env M) k kx = res := by
  rw [← h]
  unfold sLst
  rw [el_bind]
  congr
  funext avs M1
  unfold tupK
  cases keepDs avs M1 with
  | none => rfl
  | some p =>
    obtain ⟨xs, M2⟩ := p
    dsimp only
    unfold guard
    by_cases hl : xs.length ≤ sizeLine
    · rw [if_pos (decide_eq_true hl), if_pos hl]; rfl
    · rw [if_neg (by simpa using hl), if_neg hl]; rfl
theorem e_iff (h : el (c env M) (fun b M1 => cond b (el (f env M1) k kx) (el (g env M1) k kx)) kx = res) : el (sIf c f g env M) k kx = res := by
  rw [← h]
  unfold sIf
  rw [el_bind]
  congr
  funext b M1
  cases b <;> rfl
theorem e_and (h : el (f env M) (fun x M1 => optK (bool? x) fun b => cond b (el (g env M1) k kx) (k (.d (.bl false)) M1)) kx = res) : el (sAnd f g env M) k kx = res := by
  rw [← h]
  unfold sAnd
  rw [el_bind]
  congr
  funext x M1
  cases bool? x with
  | none => rfl
  | some b => cases b <;> rfl
theorem e_or (h : el (f env M) (fun x M1 => optK (bool? x) fun b => cond b (k (.d (.bl true)) M1) (el (g env M1) k kx)) kx = res) : el (sOr f g env M) k kx = res := by
  rw [← h]
  unfold sOr
  rw [el_bind]
  congr
  funext x M1
  cases bool? x with
  | none => rfl
  | some b => cases b <;> rfl
theorem e_not (h : el (f env M) (fun x M1 => optK (bool? x) fun b => k (.d (.bl (!b))) M1) kx = res) : el (sNot f env M) k kx = res := by
  rw [← h]
  unfold sNot
  rw [el_bind]
  congr
  funext x M1
  cases bool? x <;> rfl
theorem e_chain {op op' : CmpOp} {h' : SE} (h : el (f env M) (fun x M1 => el (g env M1) (fun y M2 => optK (cmpv op M2 x y) fun b => cond b (el (h' env M2) (fun z M3 => el (cmpop op' y z M3) k kx) kx) (k (.d (.bl false)) M2)) kx) kx = res) : el (sChain op op' f g h' env M) k kx = res := by
  rw [← h]
  unfold sChain
  rw [el_bind]
  congr
  funext x M1
  rw [el_bind]
  congr
  funext y M2
  cases cmpv op M2 x y with
  | none => rfl
  | some b =>
    cases b
    · rfl
    · exact el_bind _ _ _ _
theorem t_k {avs : List AV} {c : List D → AV} {xs : List D} {M2 : Mem} (e : keepDs avs M = some (xs, M2)) (hl0 : xs.length < 1000000) (h : k (c xs) M2 = res) : tupK avs M c k = res := by
  have hl : xs.length ≤ sizeLine := Nat.le_of_lt (Nat.lt_of_lt_of_le hl0 (by decide))
  unfold tupK
  rw [e]
  dsimp only
  rw [if_pos hl]
  exact h
/-! primitives -/
theorem e_call {F : List AV → Mem → Out AV} {avs : List AV} {v : AV} {M2 : Mem} (e : F avs M = .ok v M2) (h : k v M2 = res) : el (F avs M) k kx = res := by rw [e]; exact h
theorem e_callX {F : List AV → Mem → Out AV} {avs : List AV} {v : Exc} {M2 : Mem} (e : F avs M = .exc v M2) (h : kx v M2 = res) : el (F avs M) k kx = res := by rw [e]; exact h
theorem p_int {i : Int} (h : k (.d (.int i)) M = res) : el (intOp [.d (.int i)] M) k kx = res := h
theorem p_abs {i : Int} (h : k (.d (.int i.natAbs)) M = res) : el (absOp [.d (.int i)] M) k kx = res := h
theorem p_max {i j : Int} (h : k (.d (.int (max i j))) M = res) : el (maxOp [.d (.int i), .d (.int j)] M) k kx = res := h
theorem p_min {i j : Int} (h : k (.d (.int (min i j))) M = res) : el (minOp [.d (.int i), .d (.int j)] M) k kx = res := h
theorem p_all {avs : List AV} {v : AV} {M2 : Mem} (e : allOp avs M = .ok v M2) (h : k v M2 = res) : el (allOp avs M) k kx = res := e_call e h
theorem p_any {avs : List AV} {v : AV} {M2 : Mem} (e : anyOp avs M = .ok v M2) (h : k v M2 = res) : el (anyOp avs M) k kx = res := e_call e h
theorem p_idx {x y v : AV} {M2 : Mem} (e : idx x y M = .ok v M2) (h : k v M2 = res) : el (idx x y M) k kx = res := by rw [e]; exact h
theorem p_bin {op : Operator} {x y v : AV} {M2 : Mem} (e : binop op x y M = .ok v M2) (h : k v M2 = res) : el (binop op x y M) k kx = res := by rw [e]; exact h
theorem p_isi {us : List String} {x : AV} {t : String} {b : Bool} (e : tyName M x = some t) (eb : us.any (isi1 t) = b) (h : k (.d (.bl b)) M = res) : el (isiOp us x M) k kx = res := by
  unfold isiOp
  rw [e]
  dsimp only
  rw [eb]
  exact h
/-! ### walks -/
section
variable {fi : SI} {c : SB}
theorem e_comp {tg : Tg} {vs : List Nat} (h : el (fi env M) (fun itm M1 => el (compL f c tg vs itm.deps env itm.items [] M1) k kx) kx = res) : el (sComp fi tg c f vs env M) k kx = res := by rw [← h]; exact el_bind _ _ _ _
theorem c_nil {tg : Tg} {vs : List Nat} {items acc : List D} (e : items = []) (h : k (.fr acc) M = res) : el (compL f c tg vs [] env items acc M) k kx = res := by subst e; exact h
def cpK (av : AV) (M : Mem) (acc : List D) (q : List D → Mem → Out β) : Out β := match keepD av M with
  | some (x, M3) => if acc.length < sizeLine then q (acc ++ [x]) M3 else .bad
  | none => .bad
theorem c_d {x : D} {acc : List D} {q : List D → Mem → Out β} (hl0 : acc.length < 1000000) (h : q (acc ++ [x]) M = res) : cpK (.d x) M acc q = res := by
  have hl : acc.length < sizeLine := Nat.lt_of_lt_of_le hl0 (by decide)
  unfold cpK keepD
  dsimp only
  rw [if_pos hl]
  exact h
theorem c_cons {tg : Tg} {vs : List Nat} {items acc r : List D} {d : D} {env' : Env} (e : items = d :: r) (eb : tg.bind d (wipeE env vs) = some env')
    (h : el (c env' M) (fun b M1 => cond b (el (f env' M1) (fun av M2 => cpK av M2 acc fun acc' M3 => el (compL f c tg vs [] env r acc' M3) k kx) fun _ _ => .bad) (el (compL f c tg vs [] env r acc M1) k kx)) (fun _ _ => .bad) = res) : el (compL f c tg vs [] env items acc M) k kx = res := by
  subst e
  rw [← h]
  have e1 : compL f c tg vs [] env (d :: r) acc M = match c env' M with
        | .ok true M1 => match f env' M1 with
          | .ok av M2 => match keepD av M2 with
            | some (x, M3) => if acc.length < sizeLine then compL f c tg vs [] env r (acc ++ [x]) M3 else .bad
            | none => .bad
          | _ => .bad
        | .ok false M1 => compL f c tg vs [] env r acc M1
        | _ => .bad := by
    rw [compL, if_pos (by rfl), eb] <;> rfl
  rw [e1]
  cases c env' M with
  | bad => rfl
  | exc _ _ => rfl
  | ok b M1 =>
    cases b with
    | false => rfl
    | true =>
      show el (match f env' M1 with
          | .ok av M2 => match keepD av M2 with
            | some (x, M3) => if acc.length < sizeLine then compL f c tg vs [] env r (acc ++ [x]) M3 else .bad
            | none => .bad
          | _ => .bad) k kx = el (f env' M1) _ _
      cases f env' M1 with
      | bad => rfl
      | exc _ _ => rfl
      | ok av M2 =>
        show el (match keepD av M2 with
            | some (x, M3) => if acc.length < sizeLine then compL f c tg vs [] env r (acc ++ [x]) M3 else .bad
            | none => .bad) k kx = cpK av M2 acc (fun acc' M3 => el (compL f c tg vs [] env r acc' M3) k kx)
        unfold cpK
        cases keepD av M2 with
        | none => rfl
        | some p =>
          dsimp only
          split <;> rfl
theorem p_isiT {us : List String} {x : AV} {t : String} (e : tyName M x = some t) (eb : us.any (isi1 t) = true) (h : k (.d (.bl true)) M = res) : el (isiOp us x M) k kx = res := p_isi e eb h
theorem p_isiF {us : List String} {x : AV} {t : String} (e : tyName M x = some t) (eb : us.any (isi1 t) = false) (h : k (.d (.bl false)) M = res) : el (isiOp us x M) k kx = res := p_isi e eb h
theorem p_lenT {xs : List D} (h : k (.d (.int xs.length)) M = res) : el (lenOp [.d (.tup xs)] M) k kx = res := h
theorem p_lenL {xs : List D} (h : k (.d (.int xs.length)) M = res) : el (lenOp [.d (.lst xs)] M) k kx = res := h
theorem p_add {i j : Int} (h : k (.d (.int (i + j))) M = res) : el (binop .Add (opnd M (.d (.int i))) (opnd M (.d (.int j))) M) k kx = res := h
theorem p_sub {i j : Int} (h : k (.d (.int (i - j))) M = res) : el (binop .Sub (opnd M (.d (.int i))) (opnd M (.d (.int j))) M) k kx = res := h
theorem p_mul {i j : Int} (e : mulOk i j = true) (h : k (.d (.int (i * j))) M = res) : el (binop .Mult (opnd M (.d (.int i))) (opnd M (.d (.int j))) M) k kx = res := e_guard (k := k) (kx := kx) (r := .ok (.d (.int (i * j))) M) e h
theorem p_div {i j : Int} (e0 : 0 < j) (e : divOk j = true) (h : k (.d (.int (i / j))) M = res) : el (binop .FloorDiv (opnd M (.d (.int i))) (opnd M (.d (.int j))) M) k kx = res := by
  show el (if 0 < j then guard (divOk j) (.ok (.d (.int (i / j))) M) else guard (decide (j ≠ 0) && divOk j) (.ok (.d (.int (i.fdiv j))) M)) k kx = res
  rw [if_pos e0]
  exact e_guard e h
theorem p_mod {i j : Int} (e0 : 0 < j) (h : k (.d (.int (i % j))) M = res) : el (binop .Mod (opnd M (.d (.int i))) (opnd M (.d (.int j))) M) k kx = res := by
  show el (if 0 < j then .ok (.d (.int (i % j))) M else guard (decide (j ≠ 0)) (.ok (.d (.int (i.fmod j))) M)) k kx = res
  rw [if_pos e0]
  exact h
theorem p_neg {i : Int} (h : k (.d (.int (-i))) M = res) : el (negOp (.d (.int i)) M) k kx = res := h
theorem p_lt {i j : Int} (h : k (.d (.bl (decide (i < j)))) M = res) : el (cmpop .Lt (.d (.int i)) (.d (.int j)) M) k kx = res := h
theorem p_le {i j : Int} (h : k (.d (.bl (decide (i ≤ j)))) M = res) : el (cmpop .LtE (.d (.int i)) (.d (.int j)) M) k kx = res := h
theorem p_gt {i j : Int} (h : k (.d (.bl (decide (j < i)))) M = res) : el (cmpop .Gt (.d (.int i)) (.d (.int j)) M) k kx = res := h
theorem p_ge {i j : Int} (h : k (.d (.bl (decide (j ≤ i)))) M = res) : el (cmpop .GtE (.d (.int i)) (.d (.int j)) M) k kx = res := h
theorem eqv_int (i j : Int) : PyData.eqv (.int i) (.int j) = decide (i = j) := by first | rfl | (simp [PyData.eqv]; done) | (by_cases h : i = j <;> simp [PyData.eqv, h])
theorem p_eq {a b : D} (ha : a.ok = true) (hb : b.ok = true) (h : k (.d (.bl (D.eqv a b))) M = res) : el (cmpop .Eq (.d a) (.d b) M) k kx = res := by
  have e : cmpop .Eq (.d a) (.d b) M = .ok (.d (.bl (D.eqv a b))) M := by
    unfold cmpop cmpv look
    dsimp only
    rw [ha, hb]
    rfl
  rw [e]
  exact h
theorem p_ne {a b : D} (ha : a.ok = true) (hb : b.ok = true) (h : k (.d (.bl (!D.eqv a b))) M = res) : el (cmpop .NotEq (.d a) (.d b) M) k kx = res := by
  have e : cmpop .NotEq (.d a) (.d b) M = .ok (.d (.bl (!D.eqv a b))) M := by
    unfold cmpop cmpv look
    dsimp only
    rw [ha, hb]
    rfl
  rw [e]
  exact h
theorem ok_str {x : Str} (h : (PyData.str x).canLay0 = true) : (D.str x).ok = true := by
  unfold D.ok SeqAt.shaped
  have e : (D.str x).py = .str x := rfl
  rw [e, h]
  rfl
theorem ok_int (i : Int) : (D.int i).ok = true := by rfl
theorem eqv_ii (i j : Int) : D.eqv (.int i) (.int j) = decide (i = j) := eqv_int i j
theorem p_eqI {i j : Int} (h : k (.d (.bl (decide (i = j)))) M = res) : el (cmpop .Eq (.d (.int i)) (.d (.int j)) M) k kx = res := p_eq (ok_int i) (ok_int j) (by rw [eqv_ii]; exact h)
theorem p_neI {i j : Int} (h : k (.d (.bl (!decide (i = j)))) M = res) : el (cmpop .NotEq (.d (.int i)) (.d (.int j)) M) k kx = res := p_ne (ok_int i) (ok_int j) (by rw [eqv_ii]; exact h)
theorem p_isN {x : AV} (h : k (.d (.bl (isNone x))) M = res) : el (cmpop .Is x (.d .non) M) k kx = res := h
theorem p_notN {x : AV} (h : k (.d (.bl (!isNone x))) M = res) : el (cmpop .IsNot x (.d .non) M) k kx = res := h
end
end
section
variable {k : Itm → Mem → Out β} {f : SE} {l : SL}
theorem i_seq (h : el (f env M) (fun x M1 => optK (seqItm M1 x) fun it => k it M1) kx = res) : el (sSeq f env M) k kx = res := by
  rw [← h]
  unfold sSeq
  rw [el_bind]
  congr
  funext x M1
  cases seqItm M1 x <;> rfl
theorem i_rng (h : el (l env M) (fun x M1 => optK (rngItm x) fun it => k it M1) kx = res) : el (sRng l env M) k kx = res := by
  rw [← h]
  unfold sRng
  rw [el_bind]
  congr
  funext x M1
  cases rngItm x <;> rfl
end
section
variable {k : Bool → Mem → Out β} {f : SE} {c d : SB}
theorem b_sB (h : el (f env M) (fun x M1 => optK (truth M1 x) fun b => k b M1) kx = res) : el (sB f env M) k kx = res := by
  rw [← h]
  unfold sB
  rw [el_bind]
  congr
  funext x M1
  cases truth M1 x <;> rfl
theorem b_and (h : el (c env M) (fun b M1 => cond b (el (d env M1) k kx) (k false M1)) kx = res) : el (sAndB c d env M) k kx = res := by
  rw [← h]
  unfold sAndB
  rw [el_bind]
  congr
  funext b M1
  cases b <;> rfl
theorem b_or (h : el (c env M) (fun b M1 => cond b (k true M1) (el (d env M1) k kx)) kx = res) : el (sOrB c d env M) k kx = res := by
  rw [← h]
  unfold sOrB
  rw [el_bind]
  congr
  funext b M1
  cases b <;> rfl
theorem b_not (h : el (c env M) (fun b M1 => k (!b) M1) kx = res) : el (sNotB c env M) k kx = res := by rw [← h]; exact el_bind _ _ _ _
theorem b_yes (h : k true M = res) : el (sYes env M) k kx = res := h
end
theorem o_eq {α : Type} {o : Option α} {a : α} {k : α → Out β} (e : o = some a) (h : k a = res) : optK o k = res := by rw [e]; exact h
theorem o_bl {b : Bool} {k : Bool → Out β} (h : k b = res) : optK (truth M (.d (.bl b))) k = res := h
theorem o_int {i : Int} {k : Bool → Out β} (h : k (i != 0) = res) : optK (truth M (.d (.int i))) k = res := h
theorem o_b {b : Bool} {k : Bool → Out β} (h : k b = res) : optK (bool? (.d (.bl b))) k = res := h
theorem o_lt {i j : Int} {k : Bool → Out β} (h : k (decide (i < j)) = res) : optK (cmpv .Lt M (.d (.int i)) (.d (.int j))) k = res := h
theorem o_le {i j : Int} {k : Bool → Out β} (h : k (decide (i ≤ j)) = res) : optK (cmpv .LtE M (.d (.int i)) (.d (.int j))) k = res := h
section
variable {k : List AV → Mem → Out β} {f : SE} {l : SL}
theorem s_d {x : D} {k : AV → Out β} (h : k (.d x) = res) : stK (.d x) k = res := h
theorem s_c {x : Nat} {k : AV → Out β} (h : k (.cell x) = res) : stK (.cell x) k = res := h
theorem s_s {x : List Int} {k : AV → Out β} (h : k (.scr x) = res) : stK (.scr x) k = res := h
theorem s_f {x : List D} {k : AV → Out β} (h : k (.d (.lst x)) = res) : stK (.fr x) k = res := h
theorem l_nil (h : k [] M = res) : el (sNil env M) k kx = res := h
theorem l_cons (h : el (f env M) (fun x M1 => stK x fun y => el (l env M1) (fun xs M2 => k (y :: xs) M2) kx) kx = res) : el (sCons f l env M) k kx = res := by
  rw [← h]
  unfold sCons
  rw [el_bind]
  congr
  funext x M1
  rw [el_bind]
  rfl
end
end
theorem mul_l {i j : Int} (h1 : -18446744073709551616 < i) (h2 : i < 18446744073709551616) : mulOk i j = true := by
  unfold mulOk
  have : i.natAbs < 2 ^ 64 := by omega
  simp [this]
theorem mul_r {i j : Int} (h1 : -18446744073709551616 < j) (h2 : j < 18446744073709551616) : mulOk i j = true := by
  unfold mulOk
  have : j.natAbs < 2 ^ 64 := by omega
  simp [this]
theorem div_s {j : Int} (h1 : -1073741824 < j) (h2 : j < 1073741824) : divOk j = true := by
  unfold divOk
  have : j.natAbs < 2 ^ 30 := by omega
  simp [this]

theorem r_d {M : Mem} {x : D} : endK M.length (.ret (.d x)) M = .ok (.d x) M := by
  show Out.ok (AV.d x) (M.take M.length) = _
  rw [List.take_length]
theorem r_x {M : Mem} {e : Exc} : (Out.exc e (M.take M.length) : Out AV) = .exc e M := by rw [List.take_length]
theorem r_n {M : Mem} {e : Env} : endK M.length (.next e) M = .ok (.d .non) M := by
  show Out.ok (AV.d .non) (M.take M.length) = _
  rw [List.take_length]
theorem sm62 {i : Int} (h1 : -4611686018427387904 ≤ i) (h2 : i < 4611686018427387904) : small62 i = true := by
  unfold small62
  have e1 : -(2 ^ 62 : Int) ≤ i := by simpa using h1
  have e2 : i < (2 ^ 62 : Int) := by simpa using h2
  rw [decide_eq_true e1, decide_eq_true e2]
  rfl
theorem o_rngN {β : Type} {res : Out β} {n : Nat} {k : Itm → Out β} (hn : n ≤ 1000000) (h : k ⟨rngL 0 n, []⟩ = res) : optK (rngItm [.d (.int (n : Int))]) k = res := by
  unfold rngItm
  dsimp only
  rw [if_pos (sm62 (by omega) (by omega)), Int.toNat_natCast]
  exact h
theorem o_rngI {β : Type} {res : Out β} {n : Int} {k : Itm → Out β} (hn : n ≤ 1000000) (h0 : -1000000 ≤ n) (h : k ⟨rngL 0 n.toNat, []⟩ = res) : optK (rngItm [.d (.int n)]) k = res := by
  unfold rngItm
  dsimp only
  rw [if_pos (sm62 (by omega) (by omega))]
  exact h
theorem o_rng2 {β : Type} {res : Out β} {i j : Int} {k : Itm → Out β} (hi : -1000000 ≤ i ∧ i ≤ 1000000) (hj : -1000000 ≤ j ∧ j ≤ 1000000) (h : k ⟨rngL i (j - i).toNat, []⟩ = res) : optK (rngItm [.d (.int i), .d (.int j)]) k = res := by
  unfold rngItm
  dsimp only
  rw [sm62 (i := i) (by omega) (by omega), sm62 (i := j) (by omega) (by omega)]
  exact h
section
variable {β : Type} {kx : Exc → Mem → Out β} {res : Out β} {env : Env} {M : Mem}
theorem e_for {k : Fl → Mem → Out β} {fi : SI} {t : Tg} {s : SS} (h : el (fi env M) (fun itm M1 => el (forL s t itm.deps itm.items env M1) k kx) kx = res) : el (sFor fi t s env M) k kx = res := by rw [← h]; exact el_bind _ _ _ _
/-- o[i] = v -/
def setK (v o i : AV) (M : Mem) (q : Mem → Out β) : Out β := match keepD v.settle M, i with
  | some (d, M4), .d (.int k) => match cellOf? M4 o with
    | some (c, xs) => match L2.ixN xs.length k with
      | some j => q (M4.set c (some (.l (xs.set j d))))
      | none => .bad
    | none => .bad
  | _, _ => .bad
theorem e_setI {k : Fl → Mem → Out β} {fo fi fv : SE} (h : el (fv env M) (fun v M1 => el (fo env M1) (fun o M2 => el (fi env M2) (fun i M3 => setK v o i M3 fun M4 => k (.next env) M4) kx) kx) kx = res) : el (sSetI fo fi fv env M) k kx = res := by
  rw [← h]
  unfold sSetI
  rw [el_bind]
  congr
  funext v M1
  rw [el_bind]
  congr
  funext o M2
  rw [el_bind]
  congr
  funext i M3
  unfold setK
  cases keepD v.settle M3 with
  | none => rfl
  | some p =>
    obtain ⟨d, M4⟩ := p
    cases i with
    | d z =>
      cases z with
      | int n =>
        dsimp only
        cases cellOf? M4 o with
        | none => rfl
        | some q =>
          obtain ⟨c, xs⟩ := q
          dsimp only
          cases L2.ixN xs.length n <;> rfl
      | _ => rfl
    | _ => rfl
theorem st_d {d : D} {o : AV} {c : Nat} {xs : List D} {i : Int} {j : Nat} {q : Mem → Out β} (e1 : cellOf? M o = some (c, xs)) (e2 : L2.ixN xs.length i = some j) (h : q (M.set c (some (.l (xs.set j d)))) = res) : setK (.d d) o (.d (.int i)) M q = res := by
  unfold setK
  show (match keepD (.d d) M, AV.d (.int i) with
    | some (d, M4), .d (.int k) => match cellOf? M4 o with
      | some (c, xs) => match L2.ixN xs.length k with
        | some j => q (M4.set c (some (.l (xs.set j d))))
        | none => .bad
      | none => .bad
    | _, _ => .bad) = res
  unfold keepD
  dsimp only
  rw [e1]
  dsimp only
  rw [e2]
  exact h
/-! ### slices -/
def pK (x : AV) (M : Mem) (k : Option Int → Mem → Out β) : Out β := match x with
  | .d (.int i) => k (some i) M
  | _ => .bad
theorem sp_0 {k : Option Int → Mem → Out β} (h : k none M = res) : el (sPart none env M) k kx = res := h
theorem sp_1 {k : Option Int → Mem → Out β} {f : SE} (h : el (f env M) (fun x M1 => pK x M1 k) kx = res) : el (sPart (some f) env M) k kx = res := by
  rw [← h]
  unfold sPart
  dsimp only
  rw [el_bind]
  congr
  funext x M1
  cases x with
  | d z => cases z <;> rfl
  | _ => rfl
theorem pk_i {k : Option Int → Mem → Out β} {i : Int} (h : k (some i) M = res) : pK (.d (.int i)) M k = res := h
theorem e_slice {k : AV → Mem → Out β} {f : SE} {lo hi : Option SE} (h : el (f env M) (fun x M1 => el (sPart lo env M1) (fun i M2 => el (sPart hi env M2) (fun j M3 => el (cutop x i j M3) k kx) kx) kx) kx = res) : el (sSlice f lo hi env M) k kx = res := by
  rw [← h]
  unfold sSlice
  rw [el_bind]
  congr
  funext x M1
  rw [el_bind]
  congr
  funext i M2
  rw [el_bind]
theorem cut_S {k : AV → Mem → Out β} {ns : List Int} {i j : Option Int} (h : k (.fr (cutG (ns.map D.int) i j)) M = res) : el (cutop (.scr ns) i j M) k kx = res := h
theorem cut_L {k : AV → Mem → Out β} {xs : List D} {i j : Option Int} (h : k (.fr (cutG xs i j)) M = res) : el (cutop (.d (.lst xs)) i j M) k kx = res := h
theorem cut_F {k : AV → Mem → Out β} {xs : List D} {i j : Option Int} (h : k (.fr (cutG xs i j)) M = res) : el (cutop (.fr xs) i j M) k kx = res := h
theorem cut_T {k : AV → Mem → Out β} {xs : List D} {i j : Option Int} (h : k (.d (.tup (cutG xs i j))) M = res) : el (cutop (.d (.tup xs)) i j M) k kx = res := h
theorem o_itF {k : Itm → Out β} {xs : List D} (h : k ⟨xs, []⟩ = res) : optK (seqItm M (.fr xs)) k = res := h
theorem o_itL {k : Itm → Out β} {xs : List D} (h : k ⟨xs, []⟩ = res) : optK (seqItm M (.d (.lst xs))) k = res := h
theorem o_itT {k : Itm → Out β} {xs : List D} (h : k ⟨xs, []⟩ = res) : optK (seqItm M (.d (.tup xs))) k = res := h
end
theorem mem_cutG {α : Type} {xs : List α} {i j : Option Int} {x : α} (h : x ∈ cutG xs i j) : x ∈ xs := by
  unfold cutG at h
  exact List.mem_of_mem_drop (List.mem_of_mem_take h)
theorem for_ok {body : SS} {tg : Tg} {I : Env → Mem → Prop} : ∀ (items : List D) (step : ∀ d ∈ items, ∀ env M, I env M → ∃ e env' M', tg.bind d env = some e ∧ body e M = .ok (.next env') M' ∧ I env' M') (env : Env) (M : Mem), I env M → ∃ env' M', forL body tg [] items env M = .ok (.next env') M' ∧ I env' M'
  | [], _, env, M, h => ⟨env, M, rfl, h⟩
  | d :: r, step, env, M, h => by
    obtain ⟨e, env1, M1, e1, e2, h1⟩ := step d List.mem_cons_self env M h
    obtain ⟨env2, M2, e3, h2⟩ := for_ok r (fun d hd => step d (.tail _ hd)) env1 M1 h1
    refine ⟨env2, M2, ?_, h2⟩
    rw [forL, if_pos (by rfl), e1]
    dsimp only
    rw [e2, Out.bind_ok]
    exact e3
theorem ex_of {α : Type} {P : α → Prop} {X Y : α} (e : Y = X) (h : P X) : P Y := e ▸ h
theorem el_start {α : Type} {r r' : Out α} (h : el r (fun a M => .ok a M) (fun e M => .exc e M) = r') : r = r' := by rw [← el_id r]; exact h
theorem e_loop {β : Type} {kx : Exc → Mem → Out β} {res : Out β} {k : Fl → Mem → Out β} {body : SS} {tg : Tg} {items : List D} {env : Env} {M : Mem} (I : Env → Mem → Prop) (h0 : I env M)
    (step : ∀ d ∈ items, ∀ env M, I env M → ∃ e env' M', tg.bind d env = some e ∧ body e M = .ok (.next env') M' ∧ I env' M') (h : ∀ env' M', I env' M' → k (.next env') M' = res) : el (forL body tg [] items env M) k kx = res := by
  obtain ⟨env', M', e, q⟩ := for_ok items step env M h0
  rw [e]
  exact h env' M' q
end Mp

namespace Mp
open PySem L2 PySem.Spec PyProof.Rows

/-! ## a def that is picked by its value, called -/
abbrev FT := List (Str × (List AV → Mem → Out AV))
def sCallV (tab : FT) (f : SE) (l : SL) : SE := fun env M => (f env M).bind fun x M1 => match x with
  | .d (.fn n) => match tab.lookup n with
    | some F => (l env M1).bind fun avs M2 => F avs M2
    | none => .bad
  | _ => .bad
section
variable {X : Cx} {E : WX} {a e t o : Expr} {es : List Expr} {f fo : SE} {l : SL} {pos p q : Pos} {k : Nat}
theorem gn_fn {x : Str} {g : Addr} (h : X.mg x = some (.ref g)) (hg : Gl X x) (hd : (x == ("__debug__" : Str)) = false) : GE X E (.Name x pos) (sCon (.fn x)) :=
  ge_con (pe_glob (v := .ref g) hg h rfl hd) fun _ _ => .fn h
theorem gn_cal {x : Str} {F : List AV → Mem → Out AV} (c : Cald X k x F) (hg : Gl X x) (hd : (x == ("__debug__" : Str)) = false) : GE X E (.Name x pos) (sCon (.fn x)) := by
  obtain ⟨g, fd, ps, h1, _⟩ := c.ex
  exact gn_fn h1 hg hd
theorem ge_callv {tab : FT} {fe : Expr} (ht : ∀ x F, tab.lookup x = some F → Cald X k x F) (hr : Room k X.A) (tk : Takes X E) (hf : GE X E fe f) (hl : GL X E (e :: es) l)
    (hc : eval (.Call fe (e :: es) [] pos) X.env = (do callWith pos (← eval fe X.env) [] (backTo pos (starEach (e :: es) X.env)) []))
    (he : starEach (e :: es) X.env = (false, eval e X.env) :: starEach es X.env) (hpl : (backTo pos (starEach es X.env)).any (·.1) = false) : GE X E (.Call fe (e :: es) [] pos) (sCallV tab f l) := by
  refine ⟨fun pins s σ H Q I h => ?_⟩
  rw [hc]
  obtain ⟨W, Z, φ, env, M, R, Er, h⟩ := h
  refine wpAny_bind (thn (hf.run pins s σ H _ I ⟨W, Z, φ, env, M, R, Er, (Run.bind h)⟩) fun u s1 ⟨v, H1, I1, rv, W1, M1, x, _, R1, x1, r1, h2⟩ => ?_)
  cases x with
  | d y =>
    cases y with
    | fn n =>
      dsimp only at h2
      cases hn : tab.lookup n with
      | none => rw [hn] at h2; exact h2.elim
      | some F =>
        rw [hn] at h2
        dsimp only at h2
        obtain ⟨g, fd, ps, c1, c2, c3, c4⟩ := (ht n F hn).ex
        have r1 : RD (gm X) (Bar W1 Z) H1 (.fn n) v := r1
        cases r1 with
        | fn hm =>
          have e1 := c1.symm.trans hm
          cases e1
          cases rv
          refine PySem.W.callWith_K (h₀ := X.base) I.ok.mod.kin c2 (thn (hl.run pos pins s1 σ H1 _ I1 ⟨W1, Z, φ, env, M1, R1, Er.ext x1.bar, (Run.bind h2)⟩) fun us s2 ⟨vs, H2, I2, r, W2, M2, avs, _, R2, x2, r2, h3⟩ => ⟨I2.kIn, ?_⟩) he hpl
          exact run_fnS c4 hr c3 (fun pins' H' s' e' s'' I' c' => passAt tk σ pins' H' s' e' s'' I' c') I2 r ⟨W2, Z, φ, M2, avs, R2, r2, h3⟩
    | _ => exact h2.elim
  | _ => exact h2.elim

/-! ## pop -/
theorem ge_meth0 {m : List D → List AV → Mem → Option (D × List D × Mem)} {r : V → List V → Hp → VK → Prop} (ho : GE X E o fo) (hp : ∀ {to : TE}, PE X o to → PE X e (tBM0 X.K "list" r to))
    (hm : ∀ (W Z : Addr → Prop) (φ : List Addr) (M : Mem) (H : Hp), Rel (gm X) W Z φ M H → ∀ xs d ys M', m xs [] M = some (d, ys, M') → ∀ p us, H p = some (.lst us) → RDs (gm X) (Bar W Z) H xs us →
      ∃ W' y ws, Rel (gm X) W' Z φ M' H ∧ (∀ a, W' a → W a) ∧ RD (gm X) (Bar W' Z) H d y ∧ RDs (gm X) (Bar W' Z) H ys ws ∧ ∀ Q : VK, Q y (upd H p (.lst ws)) → r (.ref p) [] H Q) : GE X E e (sMeth m fo sNil) :=
  PE.imp (hp ho) fun σ H Q ⟨W, Z, φ, env, M, R, Er, h⟩ => ⟨W, Z, φ, env, M, R, Er, (Run.bind h).imp fun v H1 ⟨W1, M1, x, _, R1, x1, r1, h2⟩ => by
    cases ec : cellOf? M1 x with
    | none => rw [ec] at h2; exact h2.elim
    | some cx =>
      obtain ⟨c, xs⟩ := cx
      rw [ec] at h2
      obtain ⟨rfl, e1⟩ := cellOf_ok ec
      obtain ⟨p, ep, rfl⟩ := id r1.sr
      obtain ⟨_, us, hp, rus⟩ := R1.cell c p _ ep e1
      refine ⟨tyV_list hp, ?_⟩
      exact meth_run (vs := []) (avs := []) R1 r1.sr trivial (hm W1 Z φ M1 H1 R1) h2⟩
theorem pop0_ok {G : Gm} (W Z : Addr → Prop) (φ : List Addr) (M : Mem) (H : Hp) (avs : List AV) (vs : List V) (R : Rel G W Z φ M H) (ra : SRs G (Bar W Z) φ H avs vs) (xs : List D) (d : D) (ys : List D) (M' : Mem) (h : mPop xs avs M = some (d, ys, M')) (p : Addr) (us : List V)
    (hp : H p = some (.lst us)) (rus : RDs G (Bar W Z) H xs us) (h0 : avs = []) : ∃ W' y ws, Rel G W' Z φ M' H ∧ (∀ a, W' a → W a) ∧ RD G (Bar W' Z) H d y ∧ RDs G (Bar W' Z) H ys ws ∧ ∀ Q : VK, Q y (upd H p (.lst ws)) → rPop (.ref p) vs H Q := by
  subst h0
  match vs, ra with
  | [], _ =>
    unfold mPop at h
    dsimp only at h
    split at h
    · rename_i d1 e1
      cases h
      obtain ⟨y, e2, r⟩ := rus.get e1
      exact ⟨W, y, us.dropLast, R, fun _ z => z, r, rus.dropLast, fun Q q => ⟨p, us, y, rfl, rfl, hp, by rw [← rus.length]; exact e2, q⟩⟩
    · cases h
theorem gm_pop (ho : GE X E o fo) {apos : Pos} (hbase : attributeBase o "pop" X.env (eval o X.env) = eval o X.env) (hline : (apos.endLine == pos.line) = true) : GE X E (.Call (.Attribute o "pop" apos) [] [] pos) (sMeth mPop fo sNil) :=
  ge_meth0 ho (fun h => pe_bm0 F.plainAttrs_list F.slot_list_pop F.type_list_pop mt_pop h (hbase := hbase) (hline := hline)) fun W Z φ M H R xs d ys M' h p us hp rus => pop0_ok W Z φ M H [] [] R trivial xs d ys M' h p us hp rus rfl
/-! ## xs[::-1] -/
def revOp : AV → Mem → Out AV := fun x M => match lstOf M x with
  | some xs => .ok (.fr xs.reverse) M
  | none => .bad
def sRevL (f : SE) : SE := sOne revOp f
theorem ge_revL {j : Nat} {p1 p2 p3 : Pos} (ha : GE X E a f) : GE X E (.Subscript a (.Slice none none (some (.UnaryOp .USub (.Constant (.int 1) j p1) p2)) p3) pos) (sRevL f) :=
  PE.imp (pe_revL ha) fun σ H Q ⟨W, Z, φ, env, M, R, Er, h⟩ => ⟨W, Z, φ, env, M, R, Er, (Run.bind h).imp fun v H1 ⟨W1, M1, x, _, R1, x1, r1, h2⟩ => by
    unfold revOp at h2
    cases e : lstOf M1 x with
    | none => rw [e] at h2; exact h2.elim
    | some xs =>
      rw [e] at h2
      obtain ⟨p, vs, rfl, k1, k2, _⟩ := R1.lst r1.sr e
      exact ⟨p, vs, rfl, k1, Run.new R1 h2 k2.reverse⟩⟩
end
end Mp

namespace RvT
open PySem PySem.W PySem.Calls PyProof.Rows HT
section
variable {prog : Program} {w : World} {A : Around} {E : Value → Shared → Prop} {s : Shared}
theorem applied_rev {sl : Addr} {vk : Value} {n : Nat} {Q : Int × Int × Nat → Shared → Prop} (hs : s.heap.IsSliceOf sl .none .none vk) (pk : IsPart vk (some (-1)))
    (h : Q ((n : Int) - 1, -1, n) s) : wpAny (model prog w) A (Builtin.Slice.sliceApplied (.ref sl) (pure (n : Int))) Q E s := by
  obtain ⟨oz, hz, _, hd⟩ := id hs
  unfold Builtin.Slice.sliceApplied Builtin.Slice.sliceFields
  refine wpAny_bind (wpAny_bind (wpAny_field hz hd (x := .none) rfl (wpAny_bind (wpAny_field hz hd (x := .none) rfl (wpAny_bind (wpAny_field hz hd (x := vk) rfl (wpAny_pure ?_)))))))
  refine wpAny_bind (slicePart_ pk ?_)
  show wpAny _ _ (if ((-1 : Int) == 0) = true then _ else _) _ _ s
  rw [if_neg (by decide)]
  refine wpAny_bind (slicePart_none (wpAny_bind (slicePart_none (wpAny_bind (wpAny_pure ?_)))))
  have e1 : Builtin.Slice.sliceAdjust none none (-1) (n : Int) = ((n : Int) - 1, -1) := rfl
  show wpAny _ _ (match Builtin.Slice.sliceAdjust none none (-1) (n : Int) with | (lo, hi) => pure (lo, (-1 : Int), Builtin.Slice.slicePlaces lo hi (-1))) _ _ s
  rw [e1]
  have e2 : Builtin.Slice.slicePlaces ((n : Int) - 1) (-1) (-1) = n := by
    unfold Builtin.Slice.slicePlaces
    rw [if_neg (by decide)]
    by_cases hn : (n : Int) - 1 > -1
    · rw [if_pos hn, show (-(-1) : Int) = 1 from rfl, Int.ediv_one]
      omega
    · rw [if_neg hn]
      omega
  show wpAny _ _ (pure ((n : Int) - 1, (-1 : Int), Builtin.Slice.slicePlaces ((n : Int) - 1) (-1) (-1))) _ _ s
  rw [e2]
  exact wpAny_pure h
theorem pick_rev (xs : Array Value) : ((List.range xs.size).filterMap fun (m : Nat) => xs[(((xs.size : Int) - 1) + (m : Int) * (-1)).toNat]?).toArray = xs.toList.reverse.toArray := by
  congr 1
  have h := krv_all xs
  have e : ∀ m : Nat, (((xs.size : Int) - 1) + (m : Int) * (-1)).toNat = xs.size - 1 - m := fun m => by omega
  simp only [e]
  have h2 : (List.range xs.size).filterMap (fun m => xs[xs.size - 1 - m]?) = ((List.range xs.size).map (fun k => xs.size - 1 - k)).filterMap (xs[·]?) := by
    rw [List.filterMap_map]
    rfl
  rw [h2, krv_range, List.filterMap_reverse, h]
theorem item_rev {t sl : Addr} {items : Array Value} {vk : Value} {Q : Value → Shared → Prop} (ht : IsTup s.heap t items) (hs : s.heap.IsSliceOf sl .none .none vk) (pk : IsPart vk (some (-1))) (hsz : items.size ≤ sizeLine)
    (h : Q (.ref s.heap.objs.size) { s with heap := s.heap.push { cls := .type "tuple", data := .seq items.toList.reverse.toArray } }) : wpAny (model prog w) A (getItem (.ref t) (.ref sl)) Q E s := by
  have hfit : sizeOk (.seq items.toList.reverse.toArray) := by
    show items.toList.reverse.toArray.size ≤ sizeLine
    rw [List.size_toArray, List.length_reverse, Array.length_toList]
    exact hsz
  obtain ⟨oz, hz, hcz, _⟩ := id hs
  have hTs : s.TypeIs (.ref sl) "slice" := ⟨oz, hz, hcz⟩
  unfold getItem
  try with_reducible refine wpAny_holding ?_
  first | refine wpAny_bind (wpAny_pure ?_) | skip
  refine wpAny_bind (wpAny_sequenceKey ht.typeIs (by decide) ?_)
  refine wpAny_bind (wpAny_callSpecial?_slot (name := Str.ofString "__getitem__") ht.typeIs PyProof.Rows.slot_tuple_getitem (wpAny_call_entry PyProof.Rows.slot_tuple_getitem ht.typeIs entry_tuple_getitem ?_ (args_tuple_getitem _ _)))
  show wpAny _ _ (Builtin.Tuple.tupleItemsOf (.ref t) >>= _) _ _ s
  refine wpAny_bind (tupleItemsOf_ ht (wpAny_bind (wpAny_typeOf hTs ?_)))
  rw [if_pos (by decide)]
  refine wpAny_bind (applied_rev hs pk ?_)
  have hno : ¬ ((((items.size : Int) - 1) == 0 && (-1 : Int) == 1 && items.size == items.size) = true) := by simp
  show wpAny _ _ (if (((items.size : Int) - 1) == 0 && (-1 : Int) == 1 && items.size == items.size) = true then _ else _) _ _ s
  rw [if_neg hno, pick_rev]
  first
    | exact wpAny_bind (m := Builtin.Tuple.tupleExact _) (wpAny_newObj_type (wpAny_pure ⟨_, rfl, wpAny_pure h⟩) hfit)
    | exact wpAny_bind (m := Builtin.Tuple.tupleExact _) (wpAny_newObj_type (wpAny_bind (wpAny_pure (wpAny_pure ⟨_, rfl, wpAny_pure h⟩))) hfit)
    | exact wpAny_bind (wpAny_bind (m := Builtin.Tuple.tupleExact _) (wpAny_newObj_type (wpAny_pure (wpAny_pure ⟨_, rfl, wpAny_pure h⟩)) hfit))
    | exact wpAny_bind (wpAny_bind (m := Builtin.Tuple.tupleExact _) (wpAny_newObj_type (wpAny_pure ⟨_, rfl, wpAny_pure h⟩) hfit))
end
end RvT
namespace L2
open PySem PySem.Spec PyProof.Rows
/-- t[::-1] of a tuple -/
def tRevT (K : PySem.W.Frag) (te : TE) : TE := fun σ H Q => te σ H fun x H1 => ∃ a xs, x = .ref a ∧ SqT K H1 a xs ∧ ∀ p, H1 p = none → Q (.ref p) (upd H1 p (.tup xs.reverse))
theorem pe_rev2 {X : Cx} {e : Expr} {te tf : TE} {k : Nat} {p1 p2 p3 pos : Pos} (he : PE X e te) :
    PE X (.Subscript e (.Slice none none (some (.UnaryOp .USub (.Constant (.int 1) k p1) p2)) p3) pos) (fun σ H Q => te σ H fun x H1 => (∃ a xs, x = .ref a ∧ SqL X.K H1 a xs ∧ ∀ p, H1 p = none → Q (.ref p) (upd H1 p (.lst xs.reverse))) ∨
      ∃ a xs, x = .ref a ∧ SqT X.K H1 a xs ∧ ∀ p, H1 p = none → Q (.ref p) (upd H1 p (.tup xs.reverse))) := by
  refine ⟨fun pins s σ H Q I h => ?_⟩
  refine Subscript_ (thn (he.run pins s σ H _ I h) fun v s1 ⟨x, H1, I1, r1, q1⟩ => ?_)
  have hst : PO X (some (.UnaryOp .USub (.Constant (.int 1) k p1) p2)) (tPart (tUn (rU fun i => .int (-i)) (tC (.int 1)))) := po_some (pe_un un_neg pe_int)
  refine wpAny_Slice (thn (po_none.run pins s1 σ H1 (fun o H2 => o = none ∧ H2 = H1) I1 ⟨rfl, rfl⟩) fun vl s2 ⟨l, H2, I2, pl, el, e2⟩ => ?_)
  subst el e2
  refine thn (po_none.run pins s2 σ H2 (fun o H3 => o = none ∧ H3 = H2) I2 ⟨rfl, rfl⟩) fun vu s3 ⟨u, H3, I3, pu, eu, e3⟩ => ?_
  subst eu e3
  refine thn (hst.run pins s3 σ H3 (fun o H4 => o = some (-1) ∧ H4 = H3) I3 ⟨1, rfl, -1, rfl, rfl, rfl⟩) fun vs s4 ⟨o, H4, I4, ps, eo, e4⟩ => ?_
  subst eo e4
  have I5 : Inv X pins σ H4 { s4 with heap := s4.heap.push { cls := .type "slice", data := .fields #[vl, vu, vs] } } := I4.kept (t' := s4.toks) fun b ob q => Heap.get?_push_of_some _ q
  rcases q1 with ⟨a, xs, ex, hx, q⟩ | ⟨a, xs, ex, hx, q⟩
  · subst ex
    cases r1
    obtain ⟨its, r, ht, hz⟩ := I5.list hx
    have hlen := r.length
    show wpAny (model X.prog X.w) X.A (subscriptTail e (.Slice none none (some (.UnaryOp .USub (.Constant (.int 1) k p1) p2)) p3) (.ref a) (.ref s4.heap.objs.size)) (EP X pins σ Q) X.xe { s4 with heap := s4.heap.push { cls := .type "slice", data := .fields #[vl, vu, vs] } }
    refine tail_any (ops := [.ref a, .ref s4.heap.objs.size]) ht.isList.typeIs (PySem.slot_list_getitem.lookup) ?_ (by with_unfolding_all rfl)
    refine wpAny_getItem_list_slice ht.isList (Heap.IsSliceOf.new _ vl vu vs) pl pu ps (by decide) ?_ (by rw [List.size_toArray]; omega)
    rw [PySem.W.krv_pick]
    refine ⟨.ref _, _, I5.laid (t' := s4.toks) (o := .lst xs.reverse) (fun b ob q => Heap.get?_push_of_some _ q) (Nat.le_refl _) ?_, rfl, q _ (I5.hok.fresh (Nat.le_refl _))⟩
    exact ⟨by rw [List.length_reverse]; exact hz, _, 0, r.reverse, Heap.get?_push_size _ rfl⟩
  · subst ex
    cases r1
    cases pl
    cases pu
    obtain ⟨its, r, ht, hz⟩ := I5.tuple hx
    have hlen := r.length
    show wpAny (model X.prog X.w) X.A (subscriptTail e (.Slice none none (some (.UnaryOp .USub (.Constant (.int 1) k p1) p2)) p3) (.ref a) (.ref s4.heap.objs.size)) (EP X pins σ Q) X.xe { s4 with heap := s4.heap.push { cls := .type "slice", data := .fields #[.none, .none, vs] } }
    refine tail_any (ops := [.ref a, .ref s4.heap.objs.size]) ht.typeIs (PyProof.Rows.slot_tuple_getitem.lookup) ?_ (by with_unfolding_all rfl)
    refine RvT.item_rev ht (Heap.IsSliceOf.new _ .none .none vs) ps (by rw [List.size_toArray]; omega) ?_
    refine ⟨.ref _, _, I5.laid (t' := s4.toks) (o := .tup xs.reverse) (fun b ob q => Heap.get?_push_of_some _ q) (Nat.le_refl _) ?_, rfl, q _ (I5.hok.fresh (Nat.le_refl _))⟩
    exact ⟨by rw [List.length_reverse]; exact hz, _, r.reverse, IsTup.new _ _⟩
end L2
namespace Mp
open PySem L2 PySem.Spec PyProof.Rows
def rev2Op : AV → Mem → Out AV := fun x M => match lstOf M x, tupOf x with
  | some xs, _ => .ok (.fr xs.reverse) M
  | none, some xs => .ok (.d (.tup xs.reverse)) M
  | none, none => .bad
def sRev (f : SE) : SE := sOne rev2Op f
theorem ge_rev {X : Cx} {E : WX} {a : Expr} {f : SE} {j : Nat} {p1 p2 p3 pos : Pos} (ha : GE X E a f) : GE X E (.Subscript a (.Slice none none (some (.UnaryOp .USub (.Constant (.int 1) j p1) p2)) p3) pos) (sRev f) :=
  PE.imp (pe_rev2 (tf := rdE (gm X) f E) ha) fun σ H Q ⟨W, Z, φ, env, M, R, Er, h⟩ => ⟨W, Z, φ, env, M, R, Er, (Run.bind h).imp fun v H1 ⟨W1, M1, x, _, R1, x1, r1, h2⟩ => by
    unfold rev2Op at h2
    cases e : lstOf M1 x with
    | some xs =>
      rw [e] at h2
      obtain ⟨p, vs, rfl, k1, k2, _⟩ := R1.lst r1.sr e
      exact .inl ⟨p, vs, rfl, k1, Run.new R1 h2 k2.reverse⟩
    | none =>
      cases e2 : tupOf x with
      | none => rw [e, e2] at h2; exact h2.elim
      | some xs =>
        rw [e, e2] at h2
        obtain ⟨p, vs, rfl, k1, k2⟩ := tup_met r1.sr e2
        exact .inr ⟨p, vs, rfl, k1.sq, Run.tup R1 h2 k2.reverse⟩⟩
theorem tab_nil {X : Cx} {k : Nat} : ∀ (y : Str) (G : List AV → Mem → Out AV), ([] : FT).lookup y = some G → Cald X k y G := fun _ _ h => by cases h
theorem tab_cons {X : Cx} {k : Nat} {x : Str} {F : List AV → Mem → Out AV} {tab : FT} (c : Cald X k x F) (r : ∀ (y : Str) (G : List AV → Mem → Out AV), tab.lookup y = some G → Cald X k y G) :
    ∀ (y : Str) (G : List AV → Mem → Out AV), (((x, F) :: tab : FT)).lookup y = some G → Cald X k y G := fun y G h => by
  rw [List.lookup_cons] at h
  split at h
  · rename_i e
    cases h
    rw [eq_of_beq e]
    exact c
  · exact r y G h
end Mp

namespace EnT
open PySem
open Sem (wp)
open AutoSeq1 (wpAny_loadPart')
set_option maxHeartbeats 1000000 in
theorem new_tup (t : Addr) (items : Array Value) (n : Nat) (dct : Option Addr) (sl : Array (Option Value)) :
    Meets (Builtin.«enumerate.__new__» ⟨[.type "enumerate", .ref t], []⟩) (fun _ R s => s.heap.get? t = some { cls := .type "tuple", dict := dct, data := .seq items n, slots := sl } ∧
      R (.ok (.ret (.ref (s.heap.push { cls := .type "tuple_iterator", data := .fields #[.ref t, .int 0 0] }).objs.size)))
        { s with heap := (s.heap.push { cls := .type "tuple_iterator", data := .fields #[.ref t, .int 0 0] }).push { cls := .type "enumerate", data := .fields #[.none, .bool false, .ref s.heap.objs.size, rawInt 0, .none, .none] } }) :=
  .of_wp fun prog w A R s h => by
    obtain ⟨hp, g, d, tk, os⟩ := s; obtain ⟨hl, h⟩ := h
    have hsub := sub_enumerate
    have hL : Heap.IsTuple (Shared.heap ⟨hp, g, d, tk, os⟩) t items := ⟨_, hl, rfl, n, rfl⟩
    wp_walk using wpAny_loadPart' hl
    refine wpAny_stack_any fun st => wpAny_pure ?_
    split
    · rename_i c _ _ _ _ _
      cases (c == Value.type "enumerate")
      · wp_walk using wpAny_loadPart' hl, wpAny_pyIter_tuple hL
        exact ⟨_, rfl, h⟩
      · wp_walk using wpAny_loadPart' hl, wpAny_pyIter_tuple hL
        exact ⟨_, rfl, h⟩
    · wp_walk using wpAny_loadPart' hl, wpAny_pyIter_tuple hL
      exact ⟨_, rfl, h⟩
section
variable {prog : Program} {w : World} {A : Around} {E : Value → Shared → Prop} {s : Shared}
theorem call_tup {t : Addr} {items : Array Value} {Q : Value → Shared → Prop} (hL : s.heap.IsTuple t items)
    (h : ∀ h', IsEnum h' (s.heap.objs.size + 1) s.heap.objs.size 0 .none → h'.IsTupleIter s.heap.objs.size t 0 → h'.objs.size = s.heap.objs.size + 2 →
      (∀ b o, s.heap.get? b = some o → h'.get? b = some o) → Q (.ref (s.heap.objs.size + 1)) { s with heap := h' }) :
    wpAny (model prog w) A (call (.type "enumerate") [.ref t]) Q E s := by
  obtain ⟨⟨c, dct, dt, sl⟩, hl, hc, n, hd⟩ := hL
  replace hc : c = .type "tuple" := hc
  replace hd : dt = .seq items n := hd
  subst hc hd
  refine callType_new F.called_enumerate (by decide) (F.typeCall_enumerate_1 _) (F.newCall_enumerate_1 _) (fun obj => F.args_object_init_2 obj _) F.entry_enumerate_new (new_tup t items n dct sl) ⟨hl, ?_⟩
  have hz : (s.heap.push { cls := .type "tuple_iterator", data := .fields #[.ref t, .int 0 0] }).objs.size = s.heap.objs.size + 1 := Heap.size_push ..
  show _ ∧ _
  rw [hz]
  have he : IsEnum ((s.heap.push { cls := .type "tuple_iterator", data := .fields #[.ref t, .int 0 0] }).push
      { cls := .type "enumerate", data := .fields #[.none, .bool false, .ref s.heap.objs.size, rawInt 0, .none, .none] }) (s.heap.objs.size + 1) s.heap.objs.size 0 .none := by
    have z := Heap.get?_push_size (s.heap.push { cls := .type "tuple_iterator", data := .fields #[.ref t, .int 0 0] })
      (o := { cls := .type "enumerate", data := .fields #[.none, .bool false, .ref s.heap.objs.size, rawInt 0, .none, .none] }) rfl
    rw [hz] at z
    exact z
  exact ⟨⟨_, he, rfl⟩, h _ he ⟨_, Heap.get?_push_of_some _ (Heap.get?_push_size _ rfl), rfl, rfl⟩ (by rw [Heap.size_push, hz]) fun b o x => Heap.get?_push_of_some _ (Heap.get?_push_of_some _ x)⟩
end
theorem draws_tup {prog : Program} {w : World} {A : Around} (hh : A.handled = none) (it t : Addr) (hne : t ≠ it) (items : Array Value) :
    Draws prog w A it [it, t] items.size (fun i v => items[i]? = some v) (fun i h => h.IsTupleIter it t i ∧ h.IsTuple t items) where
  live := fun _ _ st => let ⟨o, ho, _⟩ := st.1; ⟨o, ho⟩
  frame := fun _ _ _ st hk => ⟨st.1.at fun o e => hk it (by simp) o e, let ⟨o, e, r⟩ := st.2; ⟨o, hk t (by simp) o e, r⟩⟩
  item := fun i s Q E hi st hQ => by
    refine RZ.nextOf_tuple_item st.1 st.2 (x := items[i]) (by simp [hi]) fun h' hit' hs' => ?_
    exact hQ _ h' s.toks (by simp [hi]) ⟨hit', let ⟨o, e, r⟩ := st.2; ⟨o, hs'.extBut t o hne e, r⟩⟩ hs'
  done := fun s Q E st hE => RZ.nextOf_tuple_end hh st.1 st.2 (by simp) hE
theorem draws_end {prog : Program} {w : World} {A : Around} (hh : A.handled = none) (it t : Addr) (items : Array Value) (i : Nat) (hi : items[i]? = none) :
    Draws prog w A it [it, t] 0 (fun _ _ => False) (fun _ h => h.IsTupleIter it t i ∧ h.IsTuple t items) where
  live := fun _ _ st => let ⟨o, ho, _⟩ := st.1; ⟨o, ho⟩
  frame := fun _ _ _ st hk => ⟨st.1.at fun o e => hk it (by simp) o e, let ⟨o, e, r⟩ := st.2; ⟨o, hk t (by simp) o e, r⟩⟩
  item := fun i s Q E hi st hQ => absurd hi (Nat.not_lt_zero _)
  done := fun s Q E st hE => RZ.nextOf_tuple_end hh st.1 st.2 hi hE
end EnT
namespace L2
open PySem PySem.Spec PyProof.Rows
/-- the tuple at a, each item in a new pair with its place -/
def IteT (K : PySem.W.Frag) (a : Addr) : It :=
  ⟨fun i H => ∃ (xs : List V) (x : V), SqT K H a xs ∧ xs[i]? = some x, fun i H v H' => ∃ T x, v = .ref T ∧ H T = none ∧ H' = upd H T (.tup [.int (i : Nat), x]) ∧ ∀ xs, SqT K H a xs → xs[i]? = some x, fun i H => ∃ xs : List V, SqT K H a xs ∧ xs.length ≤ i⟩
theorem turn_enumT {P : Program} {w : World} {K : PySem.W.Frag} {elts : List Expr} {kk : Nat} {tpos : Pos} (a e it : Addr) (hai : a ≠ it) (hae : a ≠ e) :
    Turn P w K (.Tuple elts kk tpos) (IteT K a) [e, it] e (fun i h => (∃ old, IsEnum h e it ((i : Nat) : Int) old) ∧ h.IsTupleIter it a i ∧ e ≠ it) where
  mem := by simp
  obj := fun i h st b hb => by
    obtain ⟨⟨old, he⟩, ⟨o, ho, hc, hd⟩, _⟩ := st
    have e' : b = e ∨ b = it := by simpa using hb
    rcases e' with z | z
    · rw [z]; exact ⟨_, he, fun v q => nomatch q⟩
    · rw [z]; exact ⟨o, ho, fun v q => by rw [hd] at q; cases q⟩
  keep := fun i h h' st k => let ⟨⟨old, he⟩, hi, hne⟩ := st; ⟨⟨old, k e (by simp) _ he⟩, hi.at fun o q => k it (by simp) o q, hne⟩
  item := by
    intro X hP hw hK hc i pins s σ H E I hf st hg
    subst hP hw hK
    obtain ⟨⟨old, he⟩, hit, hne⟩ := st
    obtain ⟨xs, x, hq, hx⟩ := hg
    obtain ⟨its, rv, p, hz⟩ := I.tuple hq
    obtain ⟨u, hu, ru⟩ := rv.get hx
    have hel : e < s.heap.objs.size := Heap.lt_size he
    have hil : it < s.heap.objs.size := by obtain ⟨_, q, _⟩ := hit; exact Heap.lt_size q
    have hT0 : s.heap.IsTuple a its.toArray := p
    have hlt : i < its.toArray.size := by
      rw [List.size_toArray]
      exact (List.getElem?_eq_some_iff.mp hu).1
    refine wpAny_pyNext_enum_itemD (EnT.draws_tup (A := X.A.in1) (I.ok.hd hc) it a hai its.toArray) he ⟨hit, hT0⟩ hlt hne (by simp; exact ⟨hne, fun z => hae z.symm⟩) fun y h' tk hy ho hit' hT hsz hk => ?_
    have ey : y = u := by
      rw [List.getElem?_toArray, hu] at hy
      exact (Option.some.inj hy).symm
    subst ey
    refine ⟨_, rfl, wpAny_letOwnedTupleGo_enum (s := { s with heap := h', toks := tk + 1 }) ho fun h'' he' sb => ?_⟩
    have hT2 : h''.get? s.heap.objs.size = some { cls := .type "tuple", data := .seq #[.int i tk, y] } := (sb.2 _ (Nat.ne_of_gt hel)).trans hT
    have new : ObjOk X.prog X.w (upd H s.heap.objs.size (.tup [.int (i : Nat), x])) h'' s.heap.objs.size (.tup [.int (i : Nat), x]) :=
      ⟨by show 2 ≤ sizeLine; decide, [.int i tk, y], .cons ⟨_, rfl⟩ (.cons ru .nil), ⟨_, hT2, rfl, _, rfl⟩⟩
    have I1 : Inv X pins σ (upd H s.heap.objs.size (.tup [.int (i : Nat), x])) { s with heap := h'', toks := tk + 1 } :=
      I.turnedNew (ch := [e, it]) (fun b ob hb q => (sb.2 b (fun z => hb (by simp [z]))).trans (hk b ob (fun z => hb (by simp [z])) (fun z => hb (by simp [z])) q)) hf (Nat.le_refl _) new
    refine ⟨.ref s.heap.objs.size, _, I1, rfl, ⟨_, x, rfl, I.hok.fresh (Nat.le_refl _), rfl, fun ys hy => ?_⟩, ⟨⟨y, ?_⟩, hit'.1.at fun o q => (sb.2 it (Ne.symm hne)).trans q, hne⟩, fun b hb => ?_⟩
    · rw [I.tuple_inj hy hq]; exact hx
    · have e1 : ((i + 1 : Nat) : Int) = (i : Int) + 1 := by omega
      rw [e1]; exact he'
    · have hb' : b < s.heap.objs.size := by
        have e' : b = e ∨ b = it := by simpa using hb
        rcases e' with z | z
        · rw [z]; exact hel
        · rw [z]; exact hil
      rw [upd_ne (Nat.ne_of_lt hb')]
      exact (hf b hb).1
  done := by
    intro X hP hw hK hc i pins s σ H E I hf st hg
    subst hP hw hK
    obtain ⟨⟨old, he⟩, hit, hne⟩ := st
    obtain ⟨xs, hq, hx⟩ := hg
    obtain ⟨its, rv, p, hz⟩ := I.tuple hq
    obtain ⟨f0, f1, f2, f3, f4, f5⟩ := hf it (by simp)
    have hl := rv.length
    exact wpAny_pyNext_enum_endD (EnT.draws_end (A := X.A.in1) (I.ok.hd hc) it a its.toArray i (by rw [List.getElem?_toArray]; exact List.getElem?_eq_none (by omega))) he ⟨hit, p⟩ fun h' eb => ⟨rfl, I.turned (t' := s.toks) (fun b o hb q => eb b o hb q) f0 f1 f3 f4 f5⟩
  self := fun A i s Q E st h => let ⟨⟨_, he⟩, _⟩ := st; wpAny_pyIter_enum he h
/-- enumerate(x): x a list, a tuple -/
theorem pi_enum2 {X : Cx} {e : Expr} {ta : TA} {p pos tpos : Pos} {elts : List Expr} {kk : Nat} (hg : Gl X "enumerate") (hm : X.mg "enumerate" = none) (ha : PA X [e] ta) (hs : starEach [e] X.env = [(false, eval e X.env)]) :
    PI X (.Tuple elts kk tpos) (.Call (.Name "enumerate" p) [e] [] pos) (fun σ H R => ta σ H fun vs H1 => (∃ a xs, vs = [.ref a] ∧ SqL X.K H1 a xs ∧ R (Ite X.K a) H1) ∨ ∃ a xs, vs = [.ref a] ∧ SqT X.K H1 a xs ∧ R (IteT X.K a) H1) := by
  refine ⟨fun pins s σ H R I h => ?_⟩
  refine Call_ (ld_blt I hg hm boot_enumerate (PyProof.Rows.callWith_type1 (thn (ha.run pos pins s σ H _ I h) fun us s1 ⟨vs, H1, I1, r1, q1⟩ => ?_) hs rfl))
  have room : ∀ b, b ∈ [s1.heap.objs.size + 1, s1.heap.objs.size] → s1.heap.objs.size ≤ b := fun b hb => by
    have e' : b = s1.heap.objs.size + 1 ∨ b = s1.heap.objs.size := by simpa using hb
    rcases e' with z | z
    · rw [z]; exact Nat.le_add_right _ _
    · rw [z]; exact Nat.le_refl _
  rcases q1 with ⟨a, xs, ex, hq, q⟩ | ⟨a, xs, ex, hq, q⟩
  · subst ex
    cases r1 with
    | cons r rr =>
      cases rr
      cases r
      obtain ⟨its, rv, p', hz⟩ := I1.list hq
      refine call_enumerate_list p'.isList fun h' he hit hsz hk => wpAny_pyIter_enum he ?_
      have I2 : Inv X pins σ H1 { s1 with heap := h' } := I1.kept (t' := s1.toks) hk
      exact ⟨s1.heap.objs.size + 1, [s1.heap.objs.size + 1, s1.heap.objs.size], _, _, H1, rfl, I2, turn_enum a (s1.heap.objs.size + 1) s1.heap.objs.size, ⟨⟨.none, he⟩, hit, Nat.succ_ne_self _⟩, fun b hb => I1.fpOk (room b hb) (I1.hok.fresh (room b hb)), q⟩
  · subst ex
    cases r1 with
    | cons r rr =>
      cases rr
      cases r
      obtain ⟨its, rv, p', hz⟩ := I1.tuple hq
      have hlt : a < s1.heap.objs.size := by obtain ⟨o, e, _⟩ := id p'; exact Heap.lt_size e
      refine EnT.call_tup p' fun h' he hit hsz hk => wpAny_pyIter_enum he ?_
      have I2 : Inv X pins σ H1 { s1 with heap := h' } := I1.kept (t' := s1.toks) hk
      exact ⟨s1.heap.objs.size + 1, [s1.heap.objs.size + 1, s1.heap.objs.size], _, _, H1, rfl, I2, turn_enumT a (s1.heap.objs.size + 1) s1.heap.objs.size (Nat.ne_of_lt hlt) (Nat.ne_of_lt (Nat.lt_succ_of_lt hlt)), ⟨⟨.none, he⟩, hit, Nat.succ_ne_self _⟩, fun b hb => I1.fpOk (room b hb) (I1.hok.fresh (room b hb)), q⟩
end L2
namespace Mp
open PySem L2 PySem.Spec PyProof.Rows
def enumItm2 (M : Mem) : List AV → Option Itm
  | [x] => match lstOf M x, tupOf x with
    | some xs, _ => some ⟨enumL 0 xs, depOf x xs⟩
    | none, some xs => some ⟨enumL 0 xs, []⟩
    | none, none => none
  | _ => none
theorem walk_enumT {K : PySem.W.Frag} {a : Addr} {n : Nat} : Walk (IteT K a) n (fun H => ∃ vs, SqT K H a vs ∧ vs.length = n)
    (fun i H v H' => ∃ T x, v = .ref T ∧ H T = none ∧ H' = upd H T (.tup [.int (i : Nat), x]) ∧ ∀ vs, SqT K H a vs → vs[i]? = some x) :=
  ⟨fun i H hi ⟨vs, q, e⟩ => ⟨vs, vs[i]'(by omega), q, by simp [e, hi]⟩, fun H ⟨vs, q, e⟩ => ⟨vs, q, by omega⟩, fun _ _ _ _ _ _ y => y⟩
theorem gi_enum2 {X : Cx} {E : WX} {a : Expr} {es : List Expr} {l : SL} {pos p tpos : Pos} {kk : Nat} (hg : Gl X "enumerate") (hm : X.mg "enumerate" = none) (hs : starEach [a] X.env = [(false, eval a X.env)]) (hl : GL X E [a] l) : GI X E (.Tuple es kk tpos) (.Call (.Name "enumerate" p) [a] [] pos) (sItm enumItm2 l) :=
  PI.imp (pi_enum2 hg hm hl hs) fun σ H Q ⟨W, Z, φ, env, M, R, Er, h⟩ => ⟨W, Z, φ, env, M, R, Er, (RunI.bind h).imp fun vs H1 ⟨W1, M1, avs, e, R1, x1, r1, h2⟩ => by
    unfold enumItm2 at h2
    split at h2
    · rename_i it e2
      split at e2
      · obtain ⟨v, rfl, r⟩ := r1.one
        split at e2
        · rename_i xs el
          cases e2
          obtain ⟨p, rfl, ⟨vs, hq⟩, hL⟩ := lst_later R1 r el
          refine .inl ⟨p, vs, rfl, hq, IR.run R1 h2 ⟨_, _, walk_enumA, fun Z' W ψ M H L => ?_, fun i y H' Z' W ψ M H L hi hy => ?_⟩⟩
          · obtain ⟨vs, h1, h2⟩ := hL _ Z' W ψ M H (fun _ z => z) L
            exact ⟨vs, h1, by rw [← h2.length]; exact (enumL_len xs 0).symm⟩
          · obtain ⟨vs, h1, h2⟩ := hL _ Z' W ψ M H (fun _ z => z) L
            obtain ⟨T, u, rfl, hT, rfl, hy⟩ := hy
            have hy := hy vs h1
            have hi : i < xs.length := by simpa [enumL_len] using hi
            obtain ⟨w, e1, r1⟩ := h2.get (show xs[i]? = some xs[i] by simp [hi])
            rw [hy] at e1; cases e1
            obtain ⟨p1, p2, p3⟩ := pair_new L.rel hT (.int (i : Int)) r1
            refine ⟨_, enumL_at (show xs[i]? = some xs[i] by simp [hi]), p1, p2, ?_⟩
            rw [Nat.zero_add]
            exact p3
        · rename_i xs _ et
          cases e2
          obtain ⟨p, vs, rfl, t1, d1⟩ := tup_met r et
          refine .inr ⟨p, vs, rfl, t1.sq, IR.run R1 h2 ⟨_, _, walk_enumT, fun Z' W ψ M H L => ?_, fun i y H' Z' W ψ M H L hi hy => ?_⟩⟩
          · exact ⟨vs, (t1.ext L.rd).sq, by rw [← d1.length]; exact (enumL_len xs 0).symm⟩
          · obtain ⟨T, u, rfl, hT, rfl, hy⟩ := hy
            have hy := hy vs (t1.ext L.rd).sq
            have hi : i < xs.length := by simpa [enumL_len] using hi
            obtain ⟨w, e1, r1⟩ := (d1.ext L.rd).get (show xs[i]? = some xs[i] by simp [hi])
            rw [hy] at e1; cases e1
            obtain ⟨p1, p2, p3⟩ := pair_new L.rel hT (.int (i : Int)) r1
            refine ⟨_, enumL_at (show xs[i]? = some xs[i] by simp [hi]), p1, p2, ?_⟩
            rw [Nat.zero_add]
            exact p3
        · cases e2
      · cases e2
    · exact h2.elim⟩
end Mp

namespace Mp
open PySem

/-! ## more of stepping: while, walks over data, methods, picked defs -/
theorem while_n {c : SB} {body : SS} {I P : Env → Mem → Prop} (μ : Env → Mem → Nat)
    (step : ∀ env M, I env M → (c env M = .ok false M ∧ P env M) ∨ (c env M = .ok true M ∧ ∃ env' M', body env M = .ok (.next env') M' ∧ I env' M' ∧ μ env' M' < μ env M)) :
    ∀ (n : Nat) (env : Env) (M : Mem), I env M → μ env M < n → ∃ env' M', whileF c body n env M = .ok (.next env') M' ∧ P env' M'
  | 0, _, _, _, h => absurd h (Nat.not_lt_zero _)
  | n + 1, env, M, h, hn => by
    unfold whileF
    rcases step env M h with ⟨e, q⟩ | ⟨e, env', M', e2, q, hm⟩
    · rw [e]
      exact ⟨env, M, rfl, q⟩
    · obtain ⟨env2, M2, e3, q2⟩ := while_n μ step n env' M' q (by omega)
      rw [e]
      refine ⟨env2, M2, ?_, q2⟩
      show ((body env M).bind _) = _
      rw [e2]
      exact e3
theorem big_le : 2 ^ 200 ≤ bigF := by
  unfold bigF
  exact Nat.pow_le_pow_right (Nat.le_succ 1) (by decide)
theorem e_while {β : Type} {kx : Exc → Mem → Out β} {res : Out β} {k : Fl → Mem → Out β} {c : SB} {body : SS} {env : Env} {M : Mem} (I P : Env → Mem → Prop) (μ : Env → Mem → Nat) (h0 : I env M)
    (step : ∀ env M, I env M → (c env M = .ok false M ∧ P env M) ∨ (c env M = .ok true M ∧ ∃ env' M', body env M = .ok (.next env') M' ∧ I env' M' ∧ μ env' M' < μ env M)) (hμ : μ env M < 2 ^ 200)
    (h : ∀ env' M', P env' M' → k (.next env') M' = res) : el (sWhile c body env M) k kx = res := by
  unfold sWhile
  obtain ⟨env', M', e, q⟩ := while_n μ step bigF env M h0 (Nat.lt_of_lt_of_le hμ big_le)
  rw [e]
  exact h env' M' q
theorem comp_ok {f : SE} {c : SB} {tg : Tg} {vs : List Nat} {env : Env} {M : Mem} {g : D → D} {p : D → Bool} : ∀ (items acc : List D)
    (h : ∀ d ∈ items, ∃ e, tg.bind d (wipeE env vs) = some e ∧ c e M = .ok (p d) M ∧ (p d = true → ∃ av, f e M = .ok av M ∧ keepD av M = some (g d, M))) (hl : acc.length + items.length ≤ 1000000),
    compL f c tg vs [] env items acc M = .ok (.fr (acc ++ (items.filter p).map g)) M
  | [], acc, _, _ => by simp [compL, depsOk]
  | d :: r, acc, h, hl => by
    obtain ⟨e, e1, e2, e3⟩ := h d List.mem_cons_self
    have hr := fun d hd => h d (.tail _ hd)
    rw [List.length_cons] at hl
    rw [compL, if_pos (by rfl), e1]
    dsimp only
    rw [e2]
    cases hp : p d with
    | false =>
      dsimp only
      rw [comp_ok r acc hr (by omega), List.filter_cons_of_neg (by rw [hp]; decide)]
    | true =>
      obtain ⟨av, e4, e5⟩ := e3 hp
      dsimp only
      rw [e4]
      dsimp only
      rw [e5]
      dsimp only
      have hs : acc.length < sizeLine := Nat.lt_of_lt_of_le (show acc.length < 1000001 by omega) (by decide)
      rw [if_pos hs, comp_ok r (acc ++ [g d]) hr (by rw [List.length_append, List.length_singleton]; omega), List.filter_cons_of_pos hp, List.map_cons, List.append_assoc, List.singleton_append]
theorem e_compE {β : Type} {kx : Exc → Mem → Out β} {res : Out β} {k : AV → Mem → Out β} {f : SE} {c : SB} {tg : Tg} {vs : List Nat} {env : Env} {M : Mem} {items : List D} (g : D → D) (p : D → Bool)
    (h : ∀ d ∈ items, ∃ e, tg.bind d (wipeE env vs) = some e ∧ c e M = .ok (p d) M ∧ (p d = true → ∃ av, f e M = .ok av M ∧ keepD av M = some (g d, M))) (hl : items.length ≤ 1000000)
    (q : k (.fr ((items.filter p).map g)) M = res) : el (compL f c tg vs [] env items [] M) k kx = res := by
  rw [comp_ok items [] h (by simpa using hl)]
  exact q
section
variable {β : Type} {kx : Exc → Mem → Out β} {res : Out β} {env : Env} {M : Mem}
def gK (b : Bool) (r : Out β) : Out β := if b = true then r else .bad
theorem gk_t {b : Bool} {r : Out β} (e : b = true) (h : r = res) : gK b r = res := by unfold gK; rw [if_pos e]; exact h
def mK (m : List D → List AV → Mem → Option (D × List D × Mem)) (o : AV) (avs : List AV) (M : Mem) (k : AV → Mem → Out β) : Out β := match cellOf? M o with
  | none => .bad
  | some (_, xs) => match m xs avs M with
    | none => .bad
    | some (d, ys, M3) => match cellOf? M3 o with
      | none => .bad
      | some (c, _) => k (.d d) (M3.set c (some (.l ys)))
theorem e_meth {m : List D → List AV → Mem → Option (D × List D × Mem)} {fo : SE} {l : SL} {k : AV → Mem → Out β} (h : el (fo env M) (fun o M1 => gK (cellOf? M1 o).isSome (el (l env M1) (fun avs M2 => mK m o avs M2 k) kx)) kx = res) : el (sMeth m fo l env M) k kx = res := by
  rw [← h]
  unfold sMeth
  rw [el_bind]
  congr
  funext o M1
  unfold gK
  cases cellOf? M1 o with
  | none => rfl
  | some p =>
    dsimp only
    rw [if_pos (by rfl), el_bind]
    congr
    funext avs M2
    unfold mK
    cases cellOf? M2 o with
    | none => rfl
    | some p =>
      obtain ⟨c, xs⟩ := p
      dsimp only
      cases m xs avs M2 with
      | none => rfl
      | some t =>
        obtain ⟨d, ys, M3⟩ := t
        dsimp only
        cases cellOf? M3 o with
        | none => rfl
        | some p => rfl
theorem m_app {k : AV → Mem → Out β} {c : Nat} {xs : List D} {x : D} (e : M[c]? = some (some (.l xs))) (hl : xs.length < 1000000) (h : k (.d .non) (M.set c (some (.l (xs ++ [x])))) = res) : mK mAppend (.cell c) [.d x] M k = res := by
  have e1 : cellOf? M (.cell c) = some (c, xs) := by unfold cellOf?; dsimp only; rw [e]
  unfold mK
  rw [e1]
  have hs : xs.length < sizeLine := Nat.lt_of_lt_of_le hl (by decide)
  have e2 : mAppend xs [.d x] M = some (.non, xs ++ [x], M) := by
    unfold mAppend keepD
    dsimp only
    rw [if_pos hs]
  dsimp only
  rw [e2]
  dsimp only
  rw [e1]
  exact h
/-- the cell that was made last -/
theorem last_get {xs : List D} : (M ++ [some (MC.l xs)])[M.length]? = some (some (.l xs)) := by simp
theorem last_set {xs ys : List D} : (M ++ [some (MC.l xs)]).set M.length (some (.l ys)) = M ++ [some (.l ys)] := by simp
theorem m_appL {k : AV → Mem → Out β} {xs : List D} {x : D} (hl : xs.length < 1000000) (h : k (.d .non) (M ++ [some (.l (xs ++ [x]))]) = res) : mK mAppend (.cell M.length) [.d x] (M ++ [some (.l xs)]) k = res :=
  m_app last_get hl (by rw [last_set]; exact h)
theorem gk_L {xs : List D} {r : Out β} (h : r = res) : gK (cellOf? (M ++ [some (MC.l xs)]) (.cell M.length)).isSome r = res := gk_t (by unfold cellOf?; dsimp only; rw [last_get]; rfl) h
/-- the last item of a cell -/
theorem atI_neg1 {xs : List D} {x : D} : L2.atI (xs ++ [x]) (-1) = some x := by
  unfold L2.atI L2.ixN
  rw [if_neg (by decide), if_pos (by rw [List.length_append]; simp; omega)]
  show (xs ++ [x])[((-1 : Int) + ((xs ++ [x]).length : Nat)).toNat]? = some x
  have e : ((-1 : Int) + ((xs ++ [x]).length : Nat)).toNat = xs.length := by rw [List.length_append, List.length_singleton]; omega
  rw [e]
  simp
theorem idx_cell {c : Nat} {i : Int} {xs : List D} {x : D} (e : M[c]? = some (some (.l xs))) (e2 : L2.atI xs i = some x) : idx (.cell c) (.d (.int i)) M = .ok (.d x) M := by
  have h : lstOf M (.cell c) = some xs := by unfold lstOf; dsimp only; rw [e]
  unfold idx
  dsimp only
  rw [h]
  dsimp only
  rw [e2]
theorem idx_lst {i : Int} {xs : List D} {x : D} (e2 : L2.atI xs i = some x) : idx (.d (.lst xs)) (.d (.int i)) M = .ok (.d x) M := by
  unfold idx lstOf
  dsimp only
  rw [e2]
theorem idx_tup {i : Int} {xs : List D} {x : D} (e2 : L2.atI xs i = some x) : idx (.d (.tup xs)) (.d (.int i)) M = .ok (.d x) M := by
  unfold idx lstOf
  dsimp only
  rw [e2]
theorem atI_nat {α : Type} {xs : List α} {i : Nat} {x : α} (h : xs[i]? = some x) : L2.atI xs (i : Int) = some x := by
  have hi := (List.getElem?_eq_some_iff.mp h).1
  unfold L2.atI L2.ixN
  rw [if_pos (by omega), if_pos (by omega), Int.toNat_natCast]
  exact h
theorem atI_int {α : Type} {xs : List α} {i : Int} {x : α} (h0 : 0 ≤ i) (h : xs[i.toNat]? = some x) : L2.atI xs i = some x := by
  have e : i = (i.toNat : Int) := by omega
  rw [e]
  exact atI_nat h
end
section
variable {β : Type} {kx : Exc → Mem → Out β} {res : Out β} {env : Env} {M : Mem} {k : AV → Mem → Out β}
def pickK (tab : FT) (x : AV) (q : (List AV → Mem → Out AV) → Out β) : Out β := match x with
  | .d (.fn n) => optK (tab.lookup n) q
  | _ => .bad
theorem e_callV {tab : FT} {f : SE} {l : SL} (h : el (f env M) (fun x M1 => pickK tab x fun F => el (l env M1) (fun avs M2 => el (F avs M2) k kx) kx) kx = res) : el (sCallV tab f l env M) k kx = res := by
  rw [← h]
  unfold sCallV
  rw [el_bind]
  congr
  funext x M1
  cases x with
  | d y =>
    cases y with
    | fn n =>
      show el (match tab.lookup n with | some F => (l env M1).bind fun avs M2 => F avs M2 | none => .bad) k kx = optK (tab.lookup n) _
      cases tab.lookup n with
      | none => rfl
      | some F => exact el_bind _ _ _ _
    | _ => rfl
  | _ => rfl
theorem pick_fn {tab : FT} {n : Str} {F : List AV → Mem → Out AV} {q : (List AV → Mem → Out AV) → Out β} (e : tab.lookup n = some F) (h : q F = res) : pickK tab (.d (.fn n)) q = res := by
  unfold pickK optK
  dsimp only
  rw [e]
  exact h
theorem e_rev {f : SE} (h : el (f env M) (fun x M1 => el (rev2Op x M1) k kx) kx = res) : el (sRev f env M) k kx = res := by rw [← h]; exact el_bind _ _ _ _
theorem p_revT {xs : List D} (h : k (.d (.tup xs.reverse)) M = res) : el (rev2Op (.d (.tup xs)) M) k kx = res := h
theorem p_lenS {xs : List D} {v : AV} (e : lstOf M v = some xs) (h : k (.d (.int xs.length)) M = res) : el (lenOp [v] M) k kx = res := by
  unfold lenOp
  dsimp only
  rw [e]
  exact h
theorem i_itm {op : Mem → List AV → Option Itm} {l : SL} {k : Itm → Mem → Out β} (h : el (l env M) (fun x M1 => optK (op M1 x) fun it => k it M1) kx = res) : el (sItm op l env M) k kx = res := by
  rw [← h]
  unfold sItm
  rw [el_bind]
  congr
  funext x M1
  cases op M1 x <;> rfl
end
/-- the size of the integer in a slot: a measure -/
def intAt (env : Env) (i : Nat) : Nat := match env[i]? with
  | some (some (AV.d (D.int y))) => y.natAbs
  | _ => 0
/-! ### a walk that folds -/
theorem for_fold {S : Type} {body : SS} {tg : Tg} {I : S → Env → Mem → Prop} (f : S → D → S) : ∀ (items : List D) (step : ∀ d ∈ items, ∀ s env M, I s env M → ∃ e env' M', tg.bind d env = some e ∧ body e M = .ok (.next env') M' ∧ I (f s d) env' M') (s : S) (env : Env) (M : Mem), I s env M →
    ∃ env' M', forL body tg [] items env M = .ok (.next env') M' ∧ I (items.foldl f s) env' M'
  | [], _, s, env, M, h => ⟨env, M, rfl, h⟩
  | d :: r, step, s, env, M, h => by
    obtain ⟨e, env1, M1, e1, e2, h1⟩ := step d List.mem_cons_self s env M h
    obtain ⟨env2, M2, e3, h2⟩ := for_fold f r (fun d hd => step d (.tail _ hd)) (f s d) env1 M1 h1
    refine ⟨env2, M2, ?_, h2⟩
    rw [forL, if_pos (by rfl), e1]
    dsimp only
    rw [e2, Out.bind_ok]
    exact e3
theorem e_fold {β S : Type} {kx : Exc → Mem → Out β} {res : Out β} {k : Fl → Mem → Out β} {body : SS} {tg : Tg} {items : List D} {env : Env} {M : Mem} (I : S → Env → Mem → Prop) (f : S → D → S) (s : S) (h0 : I s env M)
    (step : ∀ d ∈ items, ∀ s env M, I s env M → ∃ e env' M', tg.bind d env = some e ∧ body e M = .ok (.next env') M' ∧ I (f s d) env' M') (h : ∀ env' M', I (items.foldl f s) env' M' → k (.next env') M' = res) : el (forL body tg [] items env M) k kx = res := by
  obtain ⟨env', M', e, q⟩ := for_fold f items step s env M h0
  rw [e]
  exact h env' M' q
theorem r_c {M : Mem} {xs : List D} : endK M.length (.ret (.cell M.length)) (M ++ [some (.l xs)]) = .ok (.fr xs) M := by
  show finRet M.length (.cell M.length) (M ++ [some (.l xs)]) = _
  unfold finRet
  dsimp only
  rw [if_neg (Nat.lt_irrefl _), last_get]
  simp
theorem atI_head {α : Type} {x : α} {xs : List α} : L2.atI (x :: xs) 0 = some x := atI_nat (i := 0) rfl
theorem cutG_tail {α : Type} {x : α} {xs : List α} : cutG (x :: xs) (some 1) none = xs := by
  unfold cutG
  have e : HT.sIx (x :: xs).length 0 (some 1) = 1 := by
    show (if (1 : Int) < 0 then ((1 : Int) + ((x :: xs).length : Int)).toNat else min (1 : Int).toNat (x :: xs).length) = 1
    have h1 : ¬ ((1 : Int) < 0) := by decide
    rw [if_neg h1, List.length_cons]
    show min 1 (xs.length + 1) = 1
    omega
  rw [e]
  show ((x :: xs).drop 1).take ((x :: xs).length - 1) = xs
  simp
def lastI (s : List Int) : Int := s.getLast?.getD 0
theorem atI_last {s : List Int} (h : s ≠ []) : L2.atI (s.map D.int) (-1) = some (.int (lastI s)) := by
  have e : s = s.dropLast ++ [s.getLast h] := (List.dropLast_concat_getLast h).symm
  unfold lastI
  rw [List.getLast?_eq_getLast h]
  show _ = some (D.int (s.getLast h))
  conv => lhs; rw [e]
  rw [List.map_append]
  exact atI_neg1
/-- the same, the place told -/
theorem for_foldI {S : Type} {body : SS} {tg : Tg} {I : Nat → S → Env → Mem → Prop} (f : S → D → S) : ∀ (items : List D) (n : Nat) (step : ∀ i d, items[i]? = some d → ∀ s env M, I (n + i) s env M → ∃ e env' M', tg.bind d env = some e ∧ body e M = .ok (.next env') M' ∧ I (n + i + 1) (f s d) env' M') (s : S) (env : Env) (M : Mem), I n s env M →
    ∃ env' M', forL body tg [] items env M = .ok (.next env') M' ∧ I (n + items.length) (items.foldl f s) env' M'
  | [], n, _, s, env, M, h => ⟨env, M, rfl, h⟩
  | d :: r, n, step, s, env, M, h => by
    obtain ⟨e, env1, M1, e1, e2, h1⟩ := step 0 d rfl s env M h
    obtain ⟨env2, M2, e3, h2⟩ := for_foldI f r (n + 1) (fun i d hd s env M h => by
      have z : n + 1 + i = n + (i + 1) := by omega
      rw [z] at h ⊢
      exact step (i + 1) d hd s env M h) (f s d) env1 M1 h1
    refine ⟨env2, M2, ?_, by rw [List.length_cons, show n + (r.length + 1) = n + 1 + r.length by omega]; exact h2⟩
    rw [forL, if_pos (by rfl), e1]
    dsimp only
    rw [e2, Out.bind_ok]
    exact e3
theorem e_foldI {β S : Type} {kx : Exc → Mem → Out β} {res : Out β} {k : Fl → Mem → Out β} {body : SS} {tg : Tg} {items : List D} {env : Env} {M : Mem} (I : Nat → S → Env → Mem → Prop) (f : S → D → S) (s : S) (h0 : I 0 s env M)
    (step : ∀ i d, items[i]? = some d → ∀ s env M, I i s env M → ∃ e env' M', tg.bind d env = some e ∧ body e M = .ok (.next env') M' ∧ I (i + 1) (f s d) env' M') (h : ∀ env' M', I items.length (items.foldl f s) env' M' → k (.next env') M' = res) : el (forL body tg [] items env M) k kx = res := by
  obtain ⟨env', M', e, q⟩ := for_foldI (I := I) f items 0 (fun i d hd s env M h => by rw [Nat.zero_add] at h ⊢; exact step i d hd s env M h) s env M h0
  rw [e]
  exact h env' M' (by rw [Nat.zero_add] at q; exact q)
/-! ### tuples of integers -/
abbrev ti (c : List Int) : D := .tup (c.map .int)
theorem idx_head {x : Int} {r : List Int} {M : Mem} : idx (.d (ti (x :: r))) (.d (.int 0)) M = .ok (.d (.int x)) M := idx_tup (xs := D.int x :: r.map D.int) atI_head
theorem idx_ti {c : List Int} {i : Nat} {x : Int} {M : Mem} (h : c[i]? = some x) : idx (.d (ti c)) (.d (.int (i : Int))) M = .ok (.d (.int x)) M := idx_tup (atI_nat (by rw [List.getElem?_map, h]; rfl))
theorem cut_tail {β : Type} {kx : Exc → Mem → Out β} {res : Out β} {k : AV → Mem → Out β} {x : Int} {r : List Int} {M : Mem} (h : k (.d (ti r)) M = res) : el (cutop (.d (ti (x :: r))) (some 1) none M) k kx = res := by
  refine cut_T ?_
  show k (.d (.tup (cutG (D.int x :: r.map D.int) (some 1) none))) M = res
  rw [cutG_tail]
  exact h
theorem foldl_map {S : Type} (f : S → D → S) (r : List Int) : ∀ s : S, (r.map D.int).foldl f s = r.foldl (fun s b => f s (.int b)) s := by
  induction r with
  | nil => intro s; rfl
  | cons b r ih => intro s; exact ih _
end Mp

namespace Mp
open PySem L2 PySem.Spec PyProof.Rows

/-! ## loops over cells, unrolled loops, sums of rows -/
theorem for_dep {body : SS} {tg : Tg} {deps : List (Nat × List D)} {I : Env → Mem → Prop} (hI : ∀ env M, I env M → depsOk M deps = true) : ∀ (items : List D) (step : ∀ d ∈ items, ∀ env M, I env M → ∃ e env' M', tg.bind d env = some e ∧ body e M = .ok (.next env') M' ∧ I env' M') (env : Env) (M : Mem), I env M →
    ∃ env' M', forL body tg deps items env M = .ok (.next env') M' ∧ I env' M'
  | [], _, env, M, h => ⟨env, M, by rw [forL, if_pos (hI _ _ h)], h⟩
  | d :: r, step, env, M, h => by
    obtain ⟨e, env1, M1, e1, e2, h1⟩ := step d List.mem_cons_self env M h
    obtain ⟨env2, M2, e3, h2⟩ := for_dep hI r (fun d hd => step d (.tail _ hd)) env1 M1 h1
    refine ⟨env2, M2, ?_, h2⟩
    rw [forL, if_pos (hI _ _ h), e1]
    dsimp only
    rw [e2, Out.bind_ok]
    exact e3
theorem e_loopD {β : Type} {kx : Exc → Mem → Out β} {res : Out β} {k : Fl → Mem → Out β} {body : SS} {tg : Tg} {items : List D} {deps : List (Nat × List D)} {env : Env} {M : Mem} (I : Env → Mem → Prop) (hI : ∀ env M, I env M → depsOk M deps = true) (h0 : I env M)
    (step : ∀ d ∈ items, ∀ env M, I env M → ∃ e env' M', tg.bind d env = some e ∧ body e M = .ok (.next env') M' ∧ I env' M') (h : ∀ env' M', I env' M' → k (.next env') M' = res) : el (forL body tg deps items env M) k kx = res := by
  obtain ⟨env', M', e, q⟩ := for_dep hI items step env M h0
  rw [e]
  exact h env' M' q
section
variable {β : Type} {kx : Exc → Mem → Out β} {res : Out β} {k : Fl → Mem → Out β} {body : SS} {tg : Tg} {items : List D} {env : Env} {M : Mem}
def forK (fl : Fl) (M : Mem) (kn : Env → Mem → Out β) (k : Fl → Mem → Out β) : Out β := match fl with
  | .next e => kn e M
  | .cont e => kn e M
  | .brk e => k (.next e) M
  | .ret v => k (.ret v) M
theorem fk_n {e : Env} {kn : Env → Mem → Out β} (h : kn e M = res) : forK (.next e) M kn k = res := h
theorem fk_c {e : Env} {kn : Env → Mem → Out β} (h : kn e M = res) : forK (.cont e) M kn k = res := h
theorem fk_b {e : Env} {kn : Env → Mem → Out β} (h : k (.next e) M = res) : forK (.brk e) M kn k = res := h
theorem fk_r {v : AV} {kn : Env → Mem → Out β} (h : k (.ret v) M = res) : forK (.ret v) M kn k = res := h
theorem f_nil (e : items = []) (h : k (.next env) M = res) : el (forL body tg [] items env M) k kx = res := by
  subst e
  rw [forL, if_pos (by rfl)]
  exact h
theorem f_cons {d : D} {r : List D} {e : Env} (ei : items = d :: r) (eb : tg.bind d env = some e) (h : el (body e M) (fun fl M1 => forK fl M1 (fun e' M2 => el (forL body tg [] r e' M2) k kx) k) kx = res) : el (forL body tg [] items env M) k kx = res := by
  subst ei
  rw [← h, forL, if_pos (by rfl), eb]
  dsimp only
  rw [el_bind]
  congr
  funext fl M1
  cases fl <;> rfl
theorem f_items {items' : List D} (e : items = items') (h : el (forL body tg [] items' env M) k kx = res) : el (forL body tg [] items env M) k kx = res := by rw [e]; exact h
theorem e_stmt {s t : SS} {env' : Env} {M' : Mem} (e : s env M = .ok (.next env') M') (h : el (t env' M') k kx = res) : el (sSeq2 s t env M) k kx = res := by
  refine e_seq ?_
  rw [e]
  exact h
end
section
variable {M : Mem}
theorem add_tup {xs ys : List D} (h : xs.length + ys.length ≤ 1000000) : binop .Add (opnd M (.d (.tup xs))) (opnd M (.d (.tup ys))) M = .ok (.d (.tup (xs ++ ys))) M := by
  have hs : xs.length + ys.length ≤ sizeLine := Nat.le_trans h (by decide)
  show guard (decide (xs.length + ys.length ≤ sizeLine)) (Out.ok (AV.d (.tup (xs ++ ys))) M) = _
  unfold guard
  rw [if_pos (decide_eq_true hs)]
theorem add_lf {xs ys : List D} (h : xs.length + ys.length ≤ 1000000) : binop .Add (opnd M (.d (.lst xs))) (opnd M (.fr ys)) M = .ok (.fr (xs ++ ys)) M := by
  have hs : xs.length + ys.length ≤ sizeLine := Nat.le_trans h (by decide)
  show guard (decide (xs.length + ys.length ≤ sizeLine)) (Out.ok (AV.fr (xs ++ ys)) M) = _
  unfold guard
  rw [if_pos (decide_eq_true hs)]
theorem add_cf {c : Nat} {xs ys : List D} (e : M[c]? = some (some (.l xs))) (h : xs.length + ys.length ≤ 1000000) : binop .Add (opnd M (.cell c)) (opnd M (.fr ys)) M = .ok (.fr (xs ++ ys)) M := by
  have e1 : opnd M (.cell c) = .d (.lst xs) := by
    unfold opnd lstOf
    dsimp only
    rw [e]
  rw [e1]
  exact add_lf h
theorem lst_tup {xs : List D} : listOp [.d (.tup xs)] M = .ok (.fr xs) M := rfl
end
theorem cutG_map {α β : Type} (f : α → β) (xs : List α) (i j : Option Int) : cutG (xs.map f) i j = (cutG xs i j).map f := by
  unfold cutG
  rw [List.length_map, ← List.map_drop, ← List.map_take]
theorem cutG_le {α : Type} (xs : List α) (i j : Option Int) : (cutG xs i j).length ≤ xs.length := by
  unfold cutG
  rw [List.length_take, List.length_drop]
  omega
section
variable {X : Cx} {E : WX} {elt tgE iter : Expr} {ifs : List Expr} {fi : SI} {t : Tg} {cond : SB} {fe : SE} {scope : Scope} {own : List (Str × Nat)} {pos : Pos}
theorem gs_asgLc {i : Nat} {x : Str} {m : Bool} {py spos : Pos} (hc : X.calm = true) (hN : X.N.Nodup) (hy : X.N[i]? = some x) (hyl : X.env.scope.names.lookup x = some .local)
    (hsw : swapsWith (.ListComp elt [⟨tgE, iter, ifs, 0⟩] scope pos) (some (.Name x py)) spos.line X.env = pure true) (hi : GI X E tgE iter fi) (ok : BlkOk X.N X.env.scope scope own)
    (hg : ∀ (s : Shared) (H : Hp) (C : Addr) (cl : List (Str × Addr)) (fp : List Addr), PG (X.blk s H scope (compEnvC scope cl C X.env) fp) tgE (rdT (gm X) t))
    (ht : ∀ (s : Shared) (H : Hp) (C : Addr) (cl : List (Str × Addr)) (fp : List Addr), PTs (X.blk s H scope (compEnvC scope cl C X.env) fp) ifs (rdB (gm X) cond FW))
    (he : ∀ (s : Shared) (H : Hp) (C : Addr) (cl : List (Str × Addr)) (fp : List Addr), GE (X.blk s H scope (compEnvC scope cl C X.env) fp) FW elt fe)
    (hs : ∀ x, foldedSetIterable iter X.env x = pure x) (hsl : ∀ j ∈ t.slots, j ∈ own.map (·.2)) : GS X E (.Assign [.Name x py] (.ListComp elt [⟨tgE, iter, ifs, 0⟩] scope pos) spos) (sAsg i m (sComp fi t cond fe (own.map (·.2)))) :=
  PS.imp (ps_setLc hc hN hy hyl hsw hi ok hg ht he hs) fun D σ H h => by
    have z : tAsg (rdE (gm X) (sComp fi t cond fe (own.map (·.2))) E) (gName i) D σ H := asg_read (m := m) D σ H h
    exact lc_read hsl σ H _ z
end
section
variable {β : Type} {kx : Exc → Mem → Out β} {res : Out β} {env : Env} {M : Mem}
theorem e_aug {k : Fl → Mem → Out β} {i : Nat} {op : Operator} {f : SE} {x : AV} (e : env[i]? = some (some x)) (h : el (f env M) (fun y M1 => el (inop op x y M1) (fun z M2 => k (.next (env.set i (some z))) M2) kx) kx = res) : el (sAug i op f env M) k kx = res := by
  rw [← h]
  unfold sAug
  rw [e]
  dsimp only
  rw [el_bind]
  congr
  funext y M1
  rw [el_bind]
  rfl
theorem p_iadd {k : AV → Mem → Out β} {i j : Int} (h : k (.d (.int (i + j))) M = res) : el (inop .Add (.d (.int i)) (.d (.int j)) M) k kx = res := h
theorem m_ext {k : AV → Mem → Out β} {c : Nat} {xs ys : List D} (e : M[c]? = some (some (.l xs))) (hl : xs.length + ys.length ≤ 1000000) (h : k (.d .non) (M.set c (some (.l (xs ++ ys)))) = res) : mK mExtend (.cell c) [.d (.lst ys)] M k = res := by
  have e1 : cellOf? M (.cell c) = some (c, xs) := by unfold cellOf?; dsimp only; rw [e]
  unfold mK
  rw [e1]
  have hs : xs.length + ys.length ≤ sizeLine := Nat.le_trans hl (by decide)
  have e2 : mExtend xs [.d (.lst ys)] M = some (.non, xs ++ ys, M) := by
    unfold mExtend lstOf
    dsimp only
    rw [if_pos hs]
  dsimp only
  rw [e2]
  dsimp only
  rw [e1]
  exact h
theorem m_extL {k : AV → Mem → Out β} {xs ys : List D} (hl : xs.length + ys.length ≤ 1000000) (h : k (.d .non) (M ++ [some (.l (xs ++ ys))]) = res) : mK mExtend (.cell M.length) [.d (.lst ys)] (M ++ [some (.l xs)]) k = res :=
  m_ext last_get hl (by rw [last_set]; exact h)
theorem mul_l1 {x : D} {j : Int} (h0 : 0 ≤ j) (h1 : j ≤ 1000000) : binop .Mult (opnd M (.fr [x])) (opnd M (.d (.int j))) M = .ok (.fr (List.replicate j.toNat x)) M := by
  have hs : ([x] : List D).length * j.toNat ≤ sizeLine := by
    rw [List.length_singleton, Nat.one_mul]
    exact Nat.le_trans (show j.toNat ≤ 1000000 by omega) (by decide)
  show guard (decide (-(2 ^ 63) ≤ j ∧ j < 2 ^ 63 ∧ ([x] : List D).length * j.toNat ≤ sizeLine)) (Out.ok (AV.fr (List.replicate j.toNat [x]).flatten) M) = _
  unfold guard
  rw [if_pos (decide_eq_true ⟨by omega, by omega, hs⟩)]
  have e : (List.replicate j.toNat [x]).flatten = List.replicate j.toNat x := by
    generalize j.toNat = n
    induction n with
    | zero => rfl
    | succ n ih => rw [List.replicate_succ, List.flatten_cons, ih]; rfl
  rw [e]
theorem mul_t1 {x : D} {j : Int} (h0 : -1000 ≤ j) (h1 : j ≤ 1000) : binop .Mult (opnd M (.d (.tup [x]))) (opnd M (.d (.int j))) M = .ok (.d (.tup (List.replicate j.toNat x))) M := by
  show guard (decide ([x] ≠ [] ∧ -1000 ≤ j ∧ j ≤ 1000 ∧ ([x] : List D).length ≤ 1000)) (Out.ok (AV.d (.tup (List.replicate j.toNat [x]).flatten)) M) = _
  unfold guard
  rw [if_pos (decide_eq_true ⟨by simp, by omega, by omega, by simp⟩)]
  have e : (List.replicate j.toNat [x]).flatten = List.replicate j.toNat x := by
    generalize j.toNat = n
    induction n with
    | zero => rfl
    | succ n ih => rw [List.replicate_succ, List.flatten_cons, ih]; rfl
  rw [e]
end
end Mp

namespace Mp
open PySem L2 PySem.Spec PyProof.Rows

/-! ## sorted(xs), xs a list of ints or of tuples of ints -/
theorem each_vals {bs : List (V × PyData)} : ∀ {us : List Value}, Vals (bs.map (·.1)) us → PySem.W.EachIs (fun v (b : V × PyData) => RelV b.1 v) us bs := by
  induction bs with
  | nil => intro us h; cases h; exact .nil
  | cons b bs ih =>
    intro us h
    cases h with
    | cons r t => exact .cons r (ih t)
theorem vals_each {bs : List (V × PyData)} : ∀ {us : List Value}, PySem.W.EachIs (fun v (b : V × PyData) => RelV b.1 v) us bs → Vals (bs.map (·.1)) us := by
  induction bs with
  | nil => intro us h; cases h; exact .nil
  | cons b bs ih =>
    intro us h
    cases h with
    | cons r t => exact .cons r (ih t)
theorem each_imp {α β : Type} {R S : α → β → Prop} : ∀ {us : List α} {bs : List β}, PySem.W.EachIs R us bs → (∀ u, ∀ b ∈ bs, R u b → S u b) → PySem.W.EachIs S us bs
  | _, _, .nil, _ => .nil
  | _, _, .cons r t, h => .cons (h _ _ List.mem_cons_self r) (each_imp t fun u b hb => h u b (.tail _ hb))
def rSortedDt (K : PySem.W.Frag) : List V → Hp → VK → Prop := fun vs H Q => ∃ (a : Addr) (bs : List (V × PyData)), vs = [V.ref a] ∧ SqL K H a (bs.map (·.1)) ∧ (∀ b ∈ bs, Dp K H b.1 b.2 ∧ b.2.depth ≤ 60) ∧ PySem.W.AllAlike (bs.map (·.2)) ∧ PySem.W.Sortable (bs.map (·.2)) ∧
  ∀ p : Addr, H p = none → Q (.ref p) (upd H p (.lst ((bs.mergeSort (PySem.W.dataLe false (·.2))).map (·.1))))
theorem cr_sortedDt {X : Cx} (hu : X.A.units + 64 < cLine) : CallR X (.builtin "sorted") (rSortedDt X.K) := by
  intro pins s σ H vs us Q I r h
  obtain ⟨a, bs, rfl, hs, hx, hal, hk, q⟩ := h
  obtain ⟨its, rv, hl, hz⟩ := I.list hs
  rw [Vals.ref1 r]
  have e := each_vals rv
  have er : PySem.W.EachIs (fun v (b : V × PyData) => ∃ as, Reads s.heap v b.2 as) its bs := each_imp e fun u b hb r => Dp.reads I b.2 b.1 u (hx b hb).1 r
  have hz' : bs.length ≤ sizeLine := by rw [List.length_map] at hz; exact hz
  refine PySem.W.sorted_data (enc := fun b : V × PyData => b.2) hl.isList e er hal hk hz' (fun b hb => ?_) fun out ho hE => ?_
  · have := (hx b hb).2
    show X.A.units + 2 + b.2.depth < cLine
    omega
  · obtain ⟨ep, he'⟩ := PyProof.Rows.sortedAll_at s.heap its out.toArray
    have hlen : ((bs.mergeSort (PySem.W.dataLe false (·.2))).map (·.1)).length ≤ sizeLine := by
      rw [List.length_map, List.length_mergeSort]
      exact hz'
    exact ⟨.ref _, upd H (s.heap.objs.size + 1) (.lst ((bs.mergeSort (PySem.W.dataLe false (·.2))).map (·.1))), I.laid (t' := s.toks) (fun _ _ => PyProof.Rows.sortedAll_old) (Nat.le_succ _) ⟨hlen, out, ep, vals_each hE, he'⟩, rfl, q _ (I.hok.fresh (Nat.le_succ _))⟩

def tupI? : D → Option (List Int)
  | .tup xs => ints? xs
  | _ => none
def tupsI? : List D → Option (List (List Int))
  | [] => some []
  | d :: r => match tupI? d, tupsI? r with
    | some a, some l => some (a :: l)
    | _, _ => none
theorem tupsI_ok : ∀ {ds : List D} {L : List (List Int)}, tupsI? ds = some L → ds = L.map ti
  | [], L, h => by cases h; rfl
  | d :: r, L, h => by
    unfold tupsI? at h
    cases e1 : tupI? d with
    | none => rw [e1] at h; cases h
    | some a =>
      cases e2 : tupsI? r with
      | none => rw [e1, e2] at h; cases h
      | some l =>
        rw [e1, e2] at h
        cases h
        rw [List.map_cons, ← tupsI_ok e2]
        congr 1
        cases d with
        | tup xs =>
          have e1 : ints? xs = some a := e1
          rw [ints_ok e1]
        | _ => cases e1
def leI (a b : List Int) : Bool := decide (a ≤ b)
def sorted2Op : List AV → Mem → Out AV
  | [a], M => match (lstOf M a).bind ints? with
    | some ns => .ok (.fr ((sortI ns).map D.int)) M
    | none => match (lstOf M a).bind tupsI? with
      | some L => if (L.all fun c => !c.isEmpty) = true then .ok (.fr ((L.mergeSort leI).map ti)) M else .bad
      | none => .bad
  | _, _ => .bad
theorem dataLe_ti {β : Type} (x : β → List Int) : PySem.W.dataLe false (fun b => PyData.tuple ((x b).map .int)) = fun p q => leI (x p) (x q) := PySem.W.dataLe_rows x
theorem py_ti (c : List Int) : (ti c).py = .tuple (c.map .int) := by
  have e : ∀ c : List Int, D.pys (c.map D.int) = c.map .int := by
    intro c
    induction c with
    | nil => rfl
    | cons a r ih =>
      show PyData.int a :: D.pys (r.map D.int) = _
      rw [ih]
      rfl
  show PyData.tuple (D.pys (c.map D.int)) = _
  rw [e]
theorem flat_ti (c : List Int) : (ti c).flat = true := by
  show D.flats (c.map D.int) = true
  induction c with
  | nil => rfl
  | cons a r ih => exact ih
theorem zip_rds {G : Gm} {B : Addr → Prop} {H : Hp} : ∀ {L : List (List Int)} {vs : List V}, RDs G B H (L.map ti) vs → ∃ zs : List (V × List Int), zs.map (·.1) = vs ∧ zs.map (·.2) = L ∧ ∀ z ∈ zs, RD G B H (ti z.2) z.1
  | [], _, h => by cases h; exact ⟨[], rfl, rfl, fun _ h => (nomatch h)⟩
  | c :: L, _, h => by
    cases h with
    | @cons _ _ v vs h1 h2 =>
      obtain ⟨zs, e1, e2, e3⟩ := zip_rds h2
      refine ⟨(v, c) :: zs, by rw [List.map_cons, e1], by rw [List.map_cons, e2], fun z hz => ?_⟩
      rcases List.mem_cons.mp hz with rfl | hz
      · exact h1
      · exact e3 z hz
theorem rds_zip {G : Gm} {B : Addr → Prop} {H : Hp} : ∀ {zs : List (V × List Int)}, (∀ z ∈ zs, RD G B H (ti z.2) z.1) → RDs G B H ((zs.map (·.2)).map ti) (zs.map (·.1))
  | [], _ => .nil
  | z :: zs, h => .cons (h z List.mem_cons_self) (rds_zip fun y hy => h y (.tail _ hy))
section
variable {G : Gm} {W Z B : Addr → Prop} {φ : List Addr} {H : Hp} {M : Mem} {Q : VK} {E : XK} {avs : List AV} {vs : List V}
theorem sorted2_run (R : Rel G W Z φ M H) (r : SRs G (Bar W Z) φ H avs vs) (h : Run G Z φ W H (sorted2Op avs M) Q E) : rSortedI G.K vs H Q ∨ rSortedDt G.K vs H Q := by
  unfold sorted2Op at h
  split at h
  · rename_i a
    obtain ⟨v, rfl, r1⟩ := r.one
    split at h
    · rename_i ns e
      left
      obtain ⟨p, rfl, h1⟩ := R.ints r1 e
      refine ⟨p, ns, rfl, h1, fun ms l hp hs hl => ?_⟩
      have e : ms = sortI ns := sorted_unique (hp.trans (sortI_perm ns).symm) hs (sortI_sorted ns)
      subst e
      exact Run.new R h (RDs.of_ints _) l hl
    · right
      split at h
      · rename_i L e
        split at h
        · rename_i hne
          obtain ⟨xs, e1, e2⟩ := Option.bind_eq_some_iff.mp e
          have e3 := tupsI_ok e2
          subst e3
          obtain ⟨p, us, rfl, hq, hr, _⟩ := R.lst r1 e1
          obtain ⟨zs, z1, z2, z3⟩ := zip_rds hr
          have hpy : (zs.map fun z : V × List Int => (z.1, PyData.tuple (z.2.map .int))).map (·.1) = us := by rw [List.map_map]; exact z1
          refine ⟨p, zs.map fun z => (z.1, .tuple (z.2.map .int)), rfl, by rw [hpy]; exact hq, fun b hb => ?_, ?_, ?_, fun l hl => ?_⟩
          · obtain ⟨z, hz, rfl⟩ := List.mem_map.mp hb
            refine ⟨?_, ?_⟩
            · have := RD.dp (z3 z hz) (flat_ti z.2)
              rw [py_ti] at this
              exact this
            · show PyData.depthAll (z.2.map .int) + 1 ≤ 60
              rw [PySem.W.depth_ints]
              decide
          · rw [List.map_map]
            refine PySem.W.AllAlike.of fun a b => ?_
            show PySem.W.alikeAll (a.2.map .int) (b.2.map .int) = true
            exact PySem.W.alike_ints _ _
          · left
            intro d hd
            rw [List.map_map] at hd
            obtain ⟨z, hz, rfl⟩ := List.mem_map.mp hd
            have hz2 : z.2 ∈ L := by rw [← z2]; exact List.mem_map.mpr ⟨z, hz, rfl⟩
            have := List.all_eq_true.mp hne z.2 hz2
            cases e : z.2 with
            | nil => rw [e] at this; cases this
            | cons x c => exact ⟨.int x, c.map .int, by show PyData.tuple (z.2.map .int) = _; rw [e]; rfl⟩
          · have em : ((zs.map fun z : V × List Int => (z.1, PyData.tuple (z.2.map .int))).mergeSort (PySem.W.dataLe false (·.2))).map (·.1) = (zs.mergeSort fun a b => leI a.2 b.2).map (·.1) := by
              rw [← List.map_mergeSort (r := fun a b : V × List Int => leI a.2 b.2) (fun a _ b _ => ?_), List.map_map]
              · rfl
              · show leI a.2 b.2 = PySem.W.dataLe false (fun z : V × List Int => PyData.tuple (z.2.map .int)) a b
                rw [dataLe_ti]
            rw [em]
            have el : (L.mergeSort leI).map ti = ((zs.mergeSort fun a b => leI a.2 b.2).map (·.2)).map ti := by
              rw [List.map_mergeSort (s := leI) (fun a _ b _ => rfl), z2]
            rw [el] at h
            exact Run.new R h (rds_zip fun z hz => z3 z (List.mem_mergeSort.mp hz)) l hl
        · exact h.elim
      · exact h.elim
  · exact h.elim
end
section
variable {X : Cx} {E : WX} {e : Expr} {es : List Expr} {l : SL} {pos p : Pos}
theorem gc_sorted2 (hu : X.A.units + 65 < cLine) (hc : X.calm = true) (hl : GL X E (e :: es) l) (he : starEach (e :: es) X.env = (false, eval e X.env) :: starEach es X.env) (hpl : (backTo pos (starEach es X.env)).any (·.1) = false) (hg : Gl X "sorted") (hm : X.mg "sorted" = none) : GE X E (.Call (.Name "sorted" p) (e :: es) [] pos) (sArgs sorted2Op l) :=
  ge_bi (fun h => pe_callB (cr_sortedI.or (cr_sortedDt (by omega))) hg hm boot_sorted h (he := he) (hpl := hpl)) hl fun W Z φ M H avs vs Q E R r h => sorted2_run R r h
end
section
variable {α β : Type} {kx : Exc → Mem → Out β} {res : Out β}
theorem g_el {r : Out α} {k : α → Mem → Out β} (h : el r k kx = res) : el r k kx = res := h
theorem g_fl {r : Out Fl} {k : Fl → Mem → Out β} (h : el r k kx = res) : el r k kx = res := h
theorem g_av {r : Out AV} {k : AV → Mem → Out β} (h : el r k kx = res) : el r k kx = res := h
theorem g_ls {r : Out (List AV)} {k : List AV → Mem → Out β} (h : el r k kx = res) : el r k kx = res := h
theorem g_bl {r : Out Bool} {k : Bool → Mem → Out β} (h : el r k kx = res) : el r k kx = res := h
theorem g_opt {o : Option α} {k : α → Out β} (h : optK o k = res) : optK o k = res := h
theorem g_cond {b : Bool} {r r' : Out β} (h : cond b r r' = res) : cond b r r' = res := h
theorem g_fk {fl : Fl} {M : Mem} {kn : Env → Mem → Out β} {k : Fl → Mem → Out β} (h : flK fl M kn k = res) : flK fl M kn k = res := h
theorem g_st {x : AV} {k : AV → Out β} (h : stK x k = res) : stK x k = res := h
theorem g_asg {i : Nat} {m : Bool} {x : AV} {env : Env} {M : Mem} {k : Fl → Mem → Out β} (h : asgK i m x env M k = res) : asgK i m x env M k = res := h
theorem g_asp {i : Nat} {m : Bool} {x : AV} {env : Env} {M : Mem} {k : Env → Mem → Out β} (h : asgP i m x env M k = res) : asgP i m x env M k = res := h
theorem g_bin {op : Operator} {x y : AV} {M : Mem} {k : AV → Mem → Out β} (h : el (binop op x y M) k kx = res) : el (binop op x y M) k kx = res := h
theorem g_cmp {op : CmpOp} {x y : AV} {M : Mem} {k : AV → Mem → Out β} (h : el (cmpop op x y M) k kx = res) : el (cmpop op x y M) k kx = res := h
end
end Mp

namespace Mp
open PySem L2 PySem.Spec PyProof.Rows

/-! ## laws whose code raises Malformed alone -/
def ctM1 : Str → Str → Option Bool := fun e h => if e = "Malformed" then (if h = "Malformed" then some true else none) else none
structure ErrsM (K : PySem.W.Frag) (mg : Str → Option Value) (CM : Addr) : Prop where
  gM : mg "Malformed" = some (.ref CM)
  xM : PySem.W.excIn K CM [.type "ValueError", .type "Exception", .type "BaseException", .type "object"] "ValueError.__new__" = true
  kM : PySem.W.keepIn K (.ref CM) = true
  bM : PySem.W.subIn K (.ref CM) (.type "BaseException") = some true
  tM : PySem.W.typeIn K (.ref CM) = some (.type "type")
  iM : PySem.W.isClsIn K CM = true
  sMM : PySem.W.subIn K (.ref CM) (.ref CM) = some true
section
variable {X : Cx} {E : WX} {CM : Addr} {j k : Nat} {m : Str} {p p2 pos pos2 : Pos}
theorem ErrsM.ctM (T : ErrsM X.K X.mg CM) : CtOk X ctM1 "Malformed" (.ref CM) := fun ec b h C hC => by
  unfold ctM1 at h
  split at h
  · rename_i e
    subst e
    rw [if_pos rfl] at h
    cases h
    have := T.gM.symm.trans hC
    cases this
    exact exm_of T.bM T.iM T.tM T.sMM
  · cases h
theorem gs_rMM (T : ErrsM X.K X.mg CM) (hc : X.calm = true) (tk : Takes X E) (hg : Gl X "Malformed") : GS X E (.Raise (some (.Call (.Name "Malformed" p) [.Constant (.str m) j p2] [] pos)) none pos2) (sRaise "Malformed" []) :=
  gs_raiseM hc tk T.xM T.gM T.kM (raises_own T.bM T.tM) hg (by decide)
end
/-! ## lists that are popped; two cells that were made last -/
section
variable {β : Type} {kx : Exc → Mem → Out β} {res : Out β} {env : Env} {M : Mem}
theorem m_pop {k : AV → Mem → Out β} {c : Nat} {xs : List D} {x : D} (e : M[c]? = some (some (.l (xs ++ [x])))) (h : k (.d x) (M.set c (some (.l xs))) = res) : mK mPop (.cell c) [] M k = res := by
  have e1 : cellOf? M (.cell c) = some (c, xs ++ [x]) := by unfold cellOf?; dsimp only; rw [e]
  unfold mK
  rw [e1]
  have e2 : mPop (xs ++ [x]) [] M = some (x, xs, M) := by
    unfold mPop
    simp
  dsimp only
  rw [e2]
  dsimp only
  rw [e1]
  exact h
end
abbrev M2 (M : Mem) (F S : List D) : Mem := M ++ [some (.l F), some (.l S)]
section
variable {M : Mem} {F S T : List D}
theorem m2_0 : (M2 M F S)[M.length]? = some (some (.l F)) := by simp
theorem m2_1 : (M2 M F S)[M.length + 1]? = some (some (.l S)) := by simp
theorem m2_s0 : (M2 M F S).set M.length (some (.l T)) = M2 M T S := by simp
theorem m2_s1 : (M2 M F S).set (M.length + 1) (some (.l T)) = M2 M F T := by simp [List.set_append_right]
variable {β : Type} {res : Out β} {k : AV → Mem → Out β} {x : D}
theorem m2_app0 (hl : F.length < 1000000) (h : k (.d .non) (M2 M (F ++ [x]) S) = res) : mK mAppend (.cell M.length) [.d x] (M2 M F S) k = res :=
  m_app m2_0 hl (by rw [m2_s0]; exact h)
theorem m2_app1 (hl : S.length < 1000000) (h : k (.d .non) (M2 M F (S ++ [x])) = res) : mK mAppend (.cell (M.length + 1)) [.d x] (M2 M F S) k = res :=
  m_app m2_1 hl (by rw [m2_s1]; exact h)
theorem m2_pop1 (h : k (.d x) (M2 M F S) = res) : mK mPop (.cell (M.length + 1)) [] (M2 M F (S ++ [x])) k = res :=
  m_pop m2_1 (by rw [m2_s1]; exact h)
theorem m2_gk0 : (cellOf? (M2 M F S) (.cell M.length)).isSome = true := by unfold cellOf?; dsimp only; rw [m2_0]; rfl
theorem m2_gk1 : (cellOf? (M2 M F S) (.cell (M.length + 1))).isSome = true := by unfold cellOf?; dsimp only; rw [m2_1]; rfl
theorem m2_len1 : lenOp [.cell (M.length + 1)] (M2 M F S) = .ok (.d (.int S.length)) (M2 M F S) := by
  unfold lenOp
  simp [lstOf]
theorem m2_new : M ++ [some (MC.l F)] ++ [some (MC.l S)] = M2 M F S := by simp
theorem m2_nl : (M ++ [some (MC.l F)]).length = M.length + 1 := by simp
end
end Mp

namespace Mp
open PySem L2 PySem.Spec PyProof.Rows

/-! ## dicts whose keys are tuples of ints, or ints: cells of their own -/
section
variable {G : Gm} {W Z : Addr → Prop} {φ : List Addr} {H : Hp} {M : Mem}
/-- a new object becomes a cell -/
theorem Rel.newCell (R : Rel G W Z φ M H) {p : Addr} {o : HO} {c : MC} (hp : H p = none) (hc : CellR G (Bar (add1 W p) Z) (upd H p o) p c) :
    Rel G (add1 W p) Z (φ ++ [p]) (M ++ [some c]) (upd H p o) ∧ Ext W H (add1 W p) (upd H p o) := by
  have R2 := R.laid (o := o) hp
  have x0 := Ext.laid R (o := o) hp
  have nb : ¬ Bar W Z p := fun z => z.elim (fun z => R.wt p z hp) fun z => R.zt p z hp
  have hnp : ∀ i : Nat, φ[i]? ≠ some p := fun i e => (R2.sep i p e).2 (.inr rfl)
  have hb : ∀ a, Bar (add1 W p) Z a → Bar W (add1 Z p) a := fun a z => by
    rcases z with (z | z) | z
    · exact .inl z
    · exact .inr (.inr z)
    · exact .inr (.inl z)
  refine ⟨⟨by simp [R.len], ?_, fun a z => z.elim (R2.wt a) fun z => by subst z; rw [upd_same]; simp, fun a z => R2.zt a (.inl z), fun i q e => ?_, fun i q c e1 e2 => ?_⟩, fun a u e n => ⟨(x0.keep a u e n).1, fun z => z.elim n fun z => by subst z; rw [hp] at e; cases e⟩, x0.live⟩
  · rw [List.nodup_append]
    refine ⟨R.nd, by simp, fun a ha b hb e => ?_⟩
    obtain ⟨i, hi⟩ := List.getElem?_of_mem ha
    simp at hb
    subst hb; subst e
    exact hnp i hi
  · by_cases hi : i < φ.length
    · rw [List.getElem?_append_left hi] at e
      exact ⟨(R2.sep i q e).1, fun z => (R2.sep i q e).2 (.inl z)⟩
    · rw [List.getElem?_append_right (by omega)] at e
      have hq : q = p := by
        cases h : i - φ.length with
        | zero => rw [h] at e; simpa using e.symm
        | succ k => rw [h] at e; simp at e
      subst hq
      exact ⟨by rw [upd_same]; simp, fun z => nb (.inr z)⟩
  · by_cases hi : i < φ.length
    · rw [List.getElem?_append_left hi] at e1
      rw [List.getElem?_append_left (by rw [← R.len]; exact hi)] at e2
      obtain ⟨w, r⟩ := R2.cell i q c e1 e2
      exact ⟨.inl w, r.ext (Ext.less hb) rfl⟩
    · rw [List.getElem?_append_right (by omega)] at e1
      rw [List.getElem?_append_right (by rw [← R.len]; omega), ← R.len] at e2
      cases h : i - φ.length with
      | zero =>
        rw [h] at e1 e2
        simp at e1 e2
        subst e1; subst e2
        exact ⟨.inr rfl, hc⟩
      | succ k => rw [h] at e1; simp at e1
/-- a cell's object is changed -/
theorem Rel.putCell (R : Rel G W Z φ M H) {i : Nat} {p : Addr} {c c2 : MC} {o : HO} (e : φ[i]? = some p) (e2 : M[i]? = some (some c)) (hc : Ext W H W (upd H p o) → CellR G (Bar W Z) (upd H p o) p c2) :
    Rel G W Z φ (M.set i (some c2)) (upd H p o) ∧ Ext W H W (upd H p o) := by
  obtain ⟨wp, _⟩ := R.cell i p c e e2
  have lv : ∀ a, H a ≠ none → upd H p o a ≠ none := fun a h => by
    by_cases z : a = p
    · rw [z, upd_same]; simp
    · rw [upd_ne z]; exact h
  have x : Ext W H W (upd H p o) := ⟨fun a u h n => ⟨by rw [upd_ne fun z => n (by rw [z]; exact wp)]; exact h, n⟩, lv⟩
  have hi : i < M.length := (List.getElem?_eq_some_iff.mp e2).1
  refine ⟨⟨by rw [List.length_set]; exact R.len, R.nd, fun a w => lv a (R.wt a w), fun a z => lv a (R.zt a z), fun j q e3 => ⟨lv q (R.sep j q e3).1, (R.sep j q e3).2⟩, fun j q c' e3 e4 => ?_⟩, x⟩
  by_cases hj : j = i
  · subst hj
    rw [List.getElem?_set_self hi] at e4
    cases e4
    rw [e] at e3; cases e3
    exact ⟨wp, hc x⟩
  · rw [List.getElem?_set_ne (Ne.symm hj)] at e4
    obtain ⟨w, r⟩ := R.cell j q c' e3 e4
    have hq : q ≠ p := fun z => by
      subst z
      obtain ⟨l1, g1⟩ := List.getElem?_eq_some_iff.mp e3
      obtain ⟨l2, g2⟩ := List.getElem?_eq_some_iff.mp e
      exact hj ((List.getElem_inj R.nd).mp (g1.trans g2.symm))
    exact ⟨w, r.ext x.bar (upd_ne hq)⟩
end
/-! ### a dict is made -/
def sNewD (i : Nat) (c : MC) : SS := fun env M => .ok (.next (env.set i (some (.cell M.length)))) (M ++ [some c])
section
variable {X : Cx} {E : WX} {a b o e v : Expr} {f g fo fi fv : SE} {pos p2 tpos : Pos}
theorem gs_newT {i : Nat} {x : Str} {pos' : Pos} (hN : X.N.Nodup) (hi : X.N[i]? = some x) (hx : Loc X.env.scope x) (hs : swapsWith (.Dict [] [] p2) (some (.Name x pos')) pos.line X.env = pure false) (hf : X.fn x = true ∨ X.env.scope.names.lookup x = some .local) :
    GS X E (.Assign [.Name x pos'] (.Dict [] [] p2) pos) (sNewD i (.t [])) :=
  PS.imp (ps_set hN hi hx pe_dnewT hs hf) fun D σ H ⟨W, Z, φ, env, M, R, Er, h⟩ => fun p hp => by
    obtain ⟨R2, x⟩ := R.newCell (o := .dT []) (c := .t []) hp ⟨[], upd_same, .nil⟩
    refine h (add1 W p) [p] _ _ ⟨R2, x, fun q hq => by simp at hq; subst hq; exact hp⟩ ?_ (by simp)
    exact ((Er.ext x.bar).app [p]).set (av := .cell M.length) ⟨p, by rw [← R.len]; simp, rfl⟩ i
theorem gs_newK {i : Nat} {x : Str} {pos' : Pos} (hN : X.N.Nodup) (hi : X.N[i]? = some x) (hx : Loc X.env.scope x) (hs : swapsWith (.Dict [] [] p2) (some (.Name x pos')) pos.line X.env = pure false) (hf : X.fn x = true ∨ X.env.scope.names.lookup x = some .local) :
    GS X E (.Assign [.Name x pos'] (.Dict [] [] p2) pos) (sNewD i (.k [])) :=
  PS.imp (ps_set hN hi hx pe_dnewK hs hf) fun D σ H ⟨W, Z, φ, env, M, R, Er, h⟩ => fun p hp => by
    obtain ⟨R2, x⟩ := R.newCell (o := .dK []) (c := .k []) hp ⟨[], upd_same, .nil⟩
    refine h (add1 W p) [p] _ _ ⟨R2, x, fun q hq => by simp at hq; subst hq; exact hp⟩ ?_ (by simp)
    exact ((Er.ext x.bar).app [p]).set (av := .cell M.length) ⟨p, by rw [← R.len]; simp, rfl⟩ i
end
/-! ### key in dict -/
def ksOf : D → Option (List Int)
  | .tup xs => ints? xs
  | _ => none
def hasK {κ : Type} [DecidableEq κ] (kvs : List (κ × D)) (k : κ) : Bool := kvs.any fun e => decide (e.1 = k)
def dIn (x y : AV) (M : Mem) : Option Bool := match x, y with
  | .d d, .cell c => match M[c]? with
    | some (some (.t kvs)) => (ksOf d).map (hasK kvs)
    | some (some (.k kvs)) => match d with
      | .int i => some (hasK kvs i)
      | _ => none
    | _ => none
  | _, _ => none
def inDOp (neg : Bool) (x y : AV) (M : Mem) : Out AV := match dIn x y M with
  | some b => .ok (.d (.bl (neg != b))) M
  | none => .bad
def sInD (neg : Bool) (f g : SE) : SE := sTwo (inDOp neg) f g
theorem inl_inj : ∀ {a b : List Int}, a.map (Sum.inl : Int → Key) = b.map Sum.inl → a = b
  | [], [], _ => rfl
  | [], _ :: _, h => by cases h
  | _ :: _, [], h => by cases h
  | x :: a, y :: b, h => by
    rw [List.map_cons, List.map_cons, List.cons.injEq, Sum.inl.injEq] at h
    rw [h.1, inl_inj h.2]
theorem any_zip {κ κ' : Type} [DecidableEq κ] [DecidableEq κ'] {fk : κ → κ'} (hf : ∀ {a b}, fk a = fk b → a = b) (k : κ) : ∀ (kvs : List (κ × D)) (us : List V), kvs.length = us.length → ((List.zip (kvs.map fun e => fk e.1) us).any fun kv => decide (kv.1 = fk k)) = hasK kvs k
  | [], _, _ => rfl
  | e :: kvs, [], h => by cases h
  | e :: kvs, u :: us, h => by
    have ih := any_zip hf k kvs us (by simpa using h)
    unfold hasK at ih ⊢
    rw [List.map_cons, List.zip_cons_cons, List.any_cons, List.any_cons, ih]
    by_cases h1 : e.1 = k
    · rw [decide_eq_true h1, decide_eq_true (congrArg fk h1)]
    · rw [decide_eq_false h1, decide_eq_false fun z => h1 (hf z)]
/-- what a key and a dict's cell tell -/
theorem dget_of {G : Gm} {W Z : Addr → Prop} {φ : List Addr} {H : Hp} {M : Mem} {x y : AV} {v u : V} {b : Bool} (R : Rel G W Z φ M H) (r1 : SR G (Bar W Z) φ H x v) (r2 : SR G (Bar W Z) φ H y u) (h : dIn x y M = some b) : ∃ a o, u = .ref a ∧ DGet H a v o ∧ o.isSome = b := by
  unfold dIn at h
  split at h
  · rename_i d c
    obtain ⟨p, ep, rfl⟩ := r2
    split at h
    · rename_i kvs em
      obtain ⟨_, us, hp, ru⟩ := R.cell c p _ ep em
      obtain ⟨ks, hk, rfl⟩ := Option.map_eq_some_iff.mp h
      cases d with
      | tup xs =>
        have hk : ints? xs = some ks := hk
        have e1 := ints_ok hk
        subst e1
        cases r1 with
        | @tup a vs _ h1 h2 =>
          have hv := h2.ints
          subst hv
          refine ⟨p, _, rfl, DGet.t (k := ks.map Sum.inl) hp (by rw [List.map_map]; exact h1.1), ?_⟩
          rw [← valV_any, any_zip inl_inj ks kvs us (by have := ru.length; simpa using this)]
      | _ => cases hk
    · rename_i kvs em
      obtain ⟨_, us, hp, ru⟩ := R.cell c p _ ep em
      split at h
      · rename_i i
        cases h
        cases r1
        refine ⟨p, _, rfl, DGet.k (k := Sum.inl i) hp, ?_⟩
        rw [← valV_any]
        exact any_zip (fk := (Sum.inl : Int → Key)) (fun z => by injection z) i kvs us (by have := ru.length; simpa using this)
      · cases h
    · cases h
  · cases h
section
variable {X : Cx} {E : WX} {a b o i v : Expr} {f g fo fi fv : SE} {pos pos' : Pos}
theorem ge_inD (hu : X.A.units + 65 < cLine) (hm : behindInMarks .In b = false) (ha : GE X E a f) (hb : GE X E b g) : GE X E (.Compare a [.In] [b] pos) (sInD false f g) :=
  ge_two (r := fun y x H Q => ∃ a o, x = .ref a ∧ DGet H a y o ∧ Q (.bl o.isSome) H) (fun ha hb => pe_cmp (pc_din (by omega) ha hb) hm) ha hb fun W Z φ M H x y v u Q E R r1 r2 h => by
    unfold inDOp at h
    split at h
    · rename_i bb e
      obtain ⟨p, ov, rfl, hg, rfl⟩ := dget_of R r1 r2 e
      refine ⟨p, ov, rfl, hg, ?_⟩
      have := Run.ok R h (v := .bl (false != ov.isSome)) (.bl _) (fun _ z => by cases z)
      simpa using this
    · exact h.elim
theorem ge_notInD (hu : X.A.units + 65 < cLine) (hm : behindInMarks .NotIn b = false) (ha : GE X E a f) (hb : GE X E b g) : GE X E (.Compare a [.NotIn] [b] pos) (sInD true f g) :=
  ge_two (r := fun y x H Q => ∃ a o, x = .ref a ∧ DGet H a y o ∧ Q (.bl (!o.isSome)) H) (fun ha hb => pe_cmp (pc_dnotin (by omega) ha hb) hm) ha hb fun W Z φ M H x y v u Q E R r1 r2 h => by
    unfold inDOp at h
    split at h
    · rename_i bb e
      obtain ⟨p, ov, rfl, hg, rfl⟩ := dget_of R r1 r2 e
      refine ⟨p, ov, rfl, hg, ?_⟩
      have := Run.ok R h (v := .bl (true != ov.isSome)) (.bl _) (fun _ z => by cases z)
      simpa using this
    · exact h.elim
end
/-! ### d[k] = v -/
def putL {κ : Type} [DecidableEq κ] (kvs : List (κ × D)) (k : κ) (v : D) : List (κ × D) := if hasK kvs k = true then kvs.map (fun e => if e.1 = k then (e.1, v) else e) else kvs ++ [(k, v)]
def dPut (d : D) (y x : AV) (M : Mem) : Option Mem := match y, x with
  | .cell c, .d kd => match M[c]? with
    | some (some (.t kvs)) => match ksOf kd with
      | some k => if kvs.length < sizeLine then some (M.set c (some (.t (putL kvs k d)))) else none
      | none => none
    | some (some (.k kvs)) => match kd with
      | .int i => if kvs.length < sizeLine then some (M.set c (some (.k (putL kvs i d)))) else none
      | _ => none
    | _ => none
  | _, _ => none
def sPutD (fo fi fv : SE) : SS := fun env M => (fv env M).bind fun v M1 => (fo env M1).bind fun o M2 => (fi env M2).bind fun i M3 => match v with
  | .d d => match dPut d o i M3 with
    | some M4 => .ok (.next env) M4
    | none => .bad
  | _ => .bad
theorem map_zip {κ κ' : Type} [DecidableEq κ] [DecidableEq κ'] {fk : κ → κ'} (hf : ∀ {a b}, fk a = fk b → a = b) {G : Gm} {B : Addr → Prop} {H : Hp} {d : D} {v : V} (rd : RD G B H d v) (k : κ) : ∀ (kvs : List (κ × D)) (us : List V), RDs G B H (kvs.map (·.2)) us →
    ∃ us', (List.zip (kvs.map fun e => fk e.1) us).map (fun kv => if kv.1 = fk k then (kv.1, v) else kv) = List.zip ((kvs.map fun e => if e.1 = k then (e.1, d) else e).map fun e => fk e.1) us' ∧ RDs G B H ((kvs.map fun e => if e.1 = k then (e.1, d) else e).map (·.2)) us'
  | [], us, h => by cases h; exact ⟨[], rfl, .nil⟩
  | e :: kvs, us, h => by
    cases h with
    | @cons _ _ u us h1 h2 =>
      obtain ⟨us', e1, e2⟩ := map_zip hf rd k kvs us h2
      by_cases hk : e.1 = k
      · refine ⟨v :: us', ?_, ?_⟩
        · rw [List.map_cons, List.zip_cons_cons, List.map_cons, e1, List.map_cons, List.map_cons, if_pos hk, if_pos (congrArg fk hk)]
          rfl
        · rw [List.map_cons, List.map_cons, if_pos hk]
          exact .cons rd e2
      · refine ⟨u :: us', ?_, ?_⟩
        · rw [List.map_cons, List.zip_cons_cons, List.map_cons, e1, List.map_cons, List.map_cons, if_neg hk, if_neg fun z => hk (hf z)]
          rfl
        · rw [List.map_cons, List.map_cons, if_neg hk]
          exact .cons h1 e2
theorem put_zip {κ κ' : Type} [DecidableEq κ] [DecidableEq κ'] {fk : κ → κ'} (hf : ∀ {a b}, fk a = fk b → a = b) {G : Gm} {B : Addr → Prop} {H : Hp} {d : D} {v : V} (rd : RD G B H d v) (k : κ) (kvs : List (κ × D)) (us : List V) (h : RDs G B H (kvs.map (·.2)) us) :
    ∃ us', putK (List.zip (kvs.map fun e => fk e.1) us) (fk k) v = List.zip ((putL kvs k d).map fun e => fk e.1) us' ∧ RDs G B H ((putL kvs k d).map (·.2)) us' := by
  have hl : kvs.length = us.length := by have := h.length; simpa using this
  unfold putK putL
  rw [any_zip hf k kvs us hl]
  by_cases hk : hasK kvs k = true
  · rw [if_pos hk, if_pos hk]
    exact map_zip hf rd k kvs us h
  · rw [if_neg hk, if_neg hk]
    refine ⟨us ++ [v], ?_, ?_⟩
    · rw [List.map_append, List.zip_append (by rw [List.length_map]; exact hl)]
      rfl
    · rw [List.map_append]
      exact h.append (.cons rd .nil)
theorem dput_of {G : Gm} {W Z : Addr → Prop} {φ : List Addr} {H : Hp} {M M4 : Mem} {d : D} {o i : AV} {v u y : V} (R : Rel G W Z φ M H) (rd : RD G (Bar W Z) H d v) (r1 : SR G (Bar W Z) φ H o u) (r2 : SR G (Bar W Z) φ H i y) (h : dPut d o i M = some M4) :
    ∃ a H4, u = .ref a ∧ DPut H a y v H4 ∧ Rel G W Z φ M4 H4 ∧ Ext W H W H4 := by
  unfold dPut at h
  split at h
  · rename_i c kd
    obtain ⟨p, ep, rfl⟩ := r1
    split at h
    · rename_i kvs em
      split at h
      · rename_i ks hk
        split at h
        · rename_i hl
          cases h
          obtain ⟨_, us, hp, ru⟩ := R.cell c p _ ep em
          have hlu : kvs.length = us.length := by have := ru.length; simpa using this
          cases kd with
          | tup xs =>
            have hk : ints? xs = some ks := hk
            have e1 := ints_ok hk
            subst e1
            cases r2 with
            | @tup a vs _ h1 h2 =>
              have hv := h2.ints
              subst hv
              obtain ⟨us', e2, r3⟩ := put_zip (fk := fun l : List Int => l.map (Sum.inl : Int → Key)) inl_inj rd ks kvs us ru
              obtain ⟨R2, x⟩ := R.putCell (o := .dT (putK (List.zip (kvs.map fun e => e.1.map Sum.inl) us) (ks.map Sum.inl) v)) (c2 := .t (putL kvs ks d)) ep em fun x => ⟨us', by rw [upd_same]; exact congrArg (fun z => some (HO.dT z)) e2, r3.ext x.bar⟩
              refine ⟨p, _, rfl, DPut.t (k := ks.map Sum.inl) hp (by rw [List.map_map]; exact h1.1) ?_, R2, x⟩
              rw [List.length_zip, List.length_map]
              omega
          | _ => cases hk
        · cases h
      · cases h
    · rename_i kvs em
      split at h
      · rename_i k
        split at h
        · rename_i hl
          cases h
          obtain ⟨_, us, hp, ru⟩ := R.cell c p _ ep em
          have hlu : kvs.length = us.length := by have := ru.length; simpa using this
          cases r2
          obtain ⟨us', e2, r3⟩ := put_zip (fk := (Sum.inl : Int → Key)) (fun z => by injection z) rd k kvs us ru
          obtain ⟨R2, x⟩ := R.putCell (o := .dK (putK (List.zip (kvs.map fun e => Sum.inl e.1) us) (Sum.inl k) v)) (c2 := .k (putL kvs k d)) ep em fun x => ⟨us', by rw [upd_same]; exact congrArg (fun z => some (HO.dK z)) e2, r3.ext x.bar⟩
          refine ⟨p, _, rfl, DPut.k (k := Sum.inl k) hp ?_, R2, x⟩
          rw [List.length_zip, List.length_map]
          omega
        · cases h
      · cases h
    · cases h
  · cases h
section
variable {X : Cx} {E : WX} {o i v : Expr} {fo fi fv : SE} {pos tpos : Pos}
theorem gs_putD (hu : X.A.units + 65 < cLine) (hv : GE X E v fv) (ho : GE X E o fo) (hi : GE X E i fi) (hs : swapsWith v (some (.Subscript o i tpos)) pos.line X.env = pure false) : GS X E (.Assign [.Subscript o i tpos] v pos) (sPutD fo fi fv) :=
  PS.imp (ps_dput (by omega) ho hi hv hs) fun De σ H ⟨W, Z, φ, env, M, R, Er, h⟩ => ⟨W, Z, φ, env, M, R, Er,
    (RunS.bind h).imp2 (fun x H1 ⟨W1, M1, x', _, R1, x1, r1, h2⟩ => ⟨W1, Z, φ, env, M1, R1, Er.ext x1.bar,
      (RunS.bind h2).imp2 (fun y H2 ⟨W2, M2, y', _, R2, x2, r2, h3⟩ => ⟨W2, Z, φ, env, M2, R2, (Er.ext x1.bar).ext x2.bar,
        (RunS.bind h3).imp2 (fun z H3 ⟨W3, M3, z', _, R3, x3, r3, h4⟩ => by
          cases x' with
          | d d =>
            dsimp only at h4
            cases ep : dPut d y' z' M3 with
            | none => rw [ep] at h4; exact h4.elim
            | some M4 =>
              rw [ep] at h4
              have r1' : RD _ _ H1 d x := r1
              obtain ⟨a, H4, rfl, hput, R4, x4⟩ := dput_of R3 ((r1'.ext x2.bar).ext x3.bar) (r2.sr.ext x3.bar) r3.sr ep
              refine ⟨a, H4, rfl, hput, ?_⟩
              exact h4 W3 [] H4 σ ⟨by simpa using R4, x4, fun _ z => by cases z⟩ (by simpa using (((Er.ext x1.bar).ext x2.bar).ext x3.bar).ext x4.bar) rfl
          | _ => exact h4.elim) (fun c d H' q => q σ rfl)⟩) (fun c d H' q => q σ rfl)⟩) (fun c d H' q => q σ rfl)⟩
end
section
variable {X : Cx} {E : WX} {a b : Expr} {f g : SE} {pos : Pos}
theorem gb_inD (hu : X.A.units + 65 < cLine) (hm : behindInMarks .In b = false) (ha : GE X E a f) (hb : GE X E b g) : GB X E (.Compare a [.In] [b] pos) (sB (sInD false f g)) :=
  PT.imp (pt_cmp (pc_din (by omega) ha hb) hm) fun σ H Q ⟨W, Z, φ, env, M, R, Er, h⟩ => by
    have h' : RunB (gm X) Z φ W H ((f env M).bind fun x M1 => (g env M1).bind fun y M2 => (inDOp false x y M2).bind fun z M3 => match truth M3 z with | some b => .ok b M3 | none => .bad) Q (fun c d H' => E c d σ H') := by
      have e : (sB (sInD false f g) env M) = ((f env M).bind fun x M1 => (g env M1).bind fun y M2 => (inDOp false x y M2).bind fun z M3 => match truth M3 z with | some b => .ok b M3 | none => .bad) := by
        unfold sB sInD sTwo
        rw [Out.assoc]
        congr 1
        funext x M1
        rw [Out.assoc]
        try rfl
      rw [← e]; exact h
    exact ⟨W, Z, φ, env, M, R, Er, (RunB.bind h').imp fun v H1 ⟨W1, M1, x, _, R1, x1, r1, h2⟩ =>
      ⟨W1, Z, φ, env, M1, R1, Er.ext x1.bar, (RunB.bind h2).imp fun u H2 ⟨W2, M2, y, _, R2, x2, r2, h4⟩ => by
        unfold inDOp at h4
        cases e : dIn x y M2 with
        | none => rw [e] at h4; exact h4.elim
        | some bb =>
          rw [e] at h4
          obtain ⟨p, ov, rfl, hg, rfl⟩ := dget_of R2 (r1.sr.ext x2.bar) r2.sr e
          refine ⟨p, ov, rfl, hg, _, rfl, ?_⟩
          have h5 : RunB (gm X) Z φ W2 H2 (.ok (false != ov.isSome) M2) Q (fun c d H' => E c d σ H') := h4
          have := RunB.ok R2 h5
          simpa using this⟩⟩
theorem gb_notInD (hu : X.A.units + 65 < cLine) (hm : behindInMarks .NotIn b = false) (ha : GE X E a f) (hb : GE X E b g) : GB X E (.Compare a [.NotIn] [b] pos) (sB (sInD true f g)) :=
  PT.imp (pt_cmp (pc_dnotin (by omega) ha hb) hm) fun σ H Q ⟨W, Z, φ, env, M, R, Er, h⟩ => by
    have h' : RunB (gm X) Z φ W H ((f env M).bind fun x M1 => (g env M1).bind fun y M2 => (inDOp true x y M2).bind fun z M3 => match truth M3 z with | some b => .ok b M3 | none => .bad) Q (fun c d H' => E c d σ H') := by
      have e : (sB (sInD true f g) env M) = ((f env M).bind fun x M1 => (g env M1).bind fun y M2 => (inDOp true x y M2).bind fun z M3 => match truth M3 z with | some b => .ok b M3 | none => .bad) := by
        unfold sB sInD sTwo
        rw [Out.assoc]
        congr 1
        funext x M1
        rw [Out.assoc]
        try rfl
      rw [← e]; exact h
    exact ⟨W, Z, φ, env, M, R, Er, (RunB.bind h').imp fun v H1 ⟨W1, M1, x, _, R1, x1, r1, h2⟩ =>
      ⟨W1, Z, φ, env, M1, R1, Er.ext x1.bar, (RunB.bind h2).imp fun u H2 ⟨W2, M2, y, _, R2, x2, r2, h4⟩ => by
        unfold inDOp at h4
        cases e : dIn x y M2 with
        | none => rw [e] at h4; exact h4.elim
        | some bb =>
          rw [e] at h4
          obtain ⟨p, ov, rfl, hg, rfl⟩ := dget_of R2 (r1.sr.ext x2.bar) r2.sr e
          refine ⟨p, ov, rfl, hg, _, rfl, ?_⟩
          have h5 : RunB (gm X) Z φ W2 H2 (.ok (true != ov.isSome) M2) Q (fun c d H' => E c d σ H') := h4
          have := RunB.ok R2 h5
          simpa using this⟩⟩
end
/-! ### stepping -/
section
variable {β : Type} {kx : Exc → Mem → Out β} {res : Out β} {env : Env} {M : Mem}
theorem e_newD {k : Fl → Mem → Out β} {i : Nat} {c : MC} (h : k (.next (env.set i (some (.cell M.length)))) (M ++ [some c]) = res) : el (sNewD i c env M) k kx = res := h
theorem e_inD {k : AV → Mem → Out β} {neg : Bool} {f g : SE} (h : el (f env M) (fun x M1 => el (g env M1) (fun y M2 => el (inDOp neg x y M2) k kx) kx) kx = res) : el (sInD neg f g env M) k kx = res := by
  rw [← h]
  unfold sInD sTwo
  rw [el_bind]
  congr
  funext x M1
  rw [el_bind]
theorem p_inD {k : AV → Mem → Out β} {neg b : Bool} {x y : AV} (e : dIn x y M = some b) (h : k (.d (.bl (neg != b))) M = res) : el (inDOp neg x y M) k kx = res := by
  unfold inDOp
  rw [e]
  exact h
def putK1 (v o i : AV) (M : Mem) (q : Mem → Out β) : Out β := match v with
  | .d d => match dPut d o i M with
    | some M4 => q M4
    | none => .bad
  | _ => .bad
theorem e_putD {k : Fl → Mem → Out β} {fo fi fv : SE} (h : el (fv env M) (fun v M1 => el (fo env M1) (fun o M2 => el (fi env M2) (fun i M3 => putK1 v o i M3 fun M4 => k (.next env) M4) kx) kx) kx = res) : el (sPutD fo fi fv env M) k kx = res := by
  rw [← h]
  unfold sPutD
  rw [el_bind]
  congr
  funext v M1
  rw [el_bind]
  congr
  funext o M2
  rw [el_bind]
  congr
  funext i M3
  unfold putK1
  cases v with
  | d d =>
    dsimp only
    cases dPut d o i M3 <;> rfl
  | _ => rfl
theorem p_putD {d : D} {o i : AV} {M4 : Mem} {q : Mem → Out β} (e : dPut d o i M = some M4) (h : q M4 = res) : putK1 (.d d) o i M q = res := by
  unfold putK1
  dsimp only
  rw [e]
  exact h
end
theorem dIn_t {c : Nat} {M : Mem} {kvs : List (List Int × D)} {ks : List Int} (e : M[c]? = some (some (.t kvs))) : dIn (.d (ti ks)) (.cell c) M = some (hasK kvs ks) := by
  unfold dIn
  dsimp only
  rw [e]
  show (ksOf (ti ks)).map (hasK kvs) = _
  have : ksOf (ti ks) = some ks := ints_map ks
  rw [this]
  rfl
theorem dIn_k {c : Nat} {M : Mem} {kvs : List (Int × D)} {i : Int} (e : M[c]? = some (some (.k kvs))) : dIn (.d (.int i)) (.cell c) M = some (hasK kvs i) := by
  unfold dIn
  dsimp only
  rw [e]
theorem dPut_t {c : Nat} {M : Mem} {kvs : List (List Int × D)} {ks : List Int} {d : D} (e : M[c]? = some (some (.t kvs))) (hl : kvs.length < 1000000) : dPut d (.cell c) (.d (ti ks)) M = some (M.set c (some (.t (putL kvs ks d)))) := by
  have hs : kvs.length < sizeLine := Nat.lt_of_lt_of_le hl (by decide)
  unfold dPut
  dsimp only
  rw [e]
  have : ksOf (ti ks) = some ks := ints_map ks
  dsimp only
  rw [this]
  dsimp only
  rw [if_pos hs]
theorem dPut_k {c : Nat} {M : Mem} {kvs : List (Int × D)} {i : Int} {d : D} (e : M[c]? = some (some (.k kvs))) (hl : kvs.length < 1000000) : dPut d (.cell c) (.d (.int i)) M = some (M.set c (some (.k (putL kvs i d)))) := by
  have hs : kvs.length < sizeLine := Nat.lt_of_lt_of_le hl (by decide)
  unfold dPut
  dsimp only
  rw [e]
  dsimp only
  rw [if_pos hs]
end Mp

namespace Mp
open PySem L2 PySem.Spec PyProof.Rows

/-! ## max(t), min(t) of a tuple of ints -/
theorem reads_vals {h : Heap} : ∀ {ns : List Int} {its : List Value}, Vals (ns.map V.int) its → ∃ as, ReadsAll h its (ns.map PyData.int) as
  | [], _, r => by cases r; exact ⟨_, .nil⟩
  | n :: ns, _, r => by
    cases r with
    | cons r t =>
      obtain ⟨as, h⟩ := reads_vals t
      obtain ⟨_, rfl⟩ := r
      exact ⟨_, .cons (.int _ _) h⟩
theorem maxL_fold : ∀ (r : List Int) (m : Int), r.foldl max m = maxL m r
  | [], _ => rfl
  | x :: r, m => maxL_fold r (max m x)
theorem minL_fold : ∀ (r : List Int) (m : Int), r.foldl min m = minL m r
  | [], _ => rfl
  | x :: r, m => minL_fold r (min m x)
def rMaxT (K : PySem.W.Frag) : List V → Hp → VK → Prop := fun vs H Q => ∃ (a : Addr) (m : Int) (ns : List Int), vs = [V.ref a] ∧ SqT K H a ((m :: ns).map V.int) ∧ Q (.int (maxL m ns)) H
def rMinT (K : PySem.W.Frag) : List V → Hp → VK → Prop := fun vs H Q => ∃ (a : Addr) (m : Int) (ns : List Int), vs = [V.ref a] ∧ SqT K H a ((m :: ns).map V.int) ∧ Q (.int (minL m ns)) H
theorem alike_ints2 (ns : List Int) : PySem.W.AlikeAll (ns.map PyData.int) := by
  refine ⟨fun x hx y hy => ?_, fun x hx => ?_⟩
  · obtain ⟨a, _, rfl⟩ := List.mem_map.mp hx
    obtain ⟨b, _, rfl⟩ := List.mem_map.mp hy
    rfl
  · obtain ⟨a, _, rfl⟩ := List.mem_map.mp hx
    exact fun h => nomatch h
theorem cr_maxT {X : Cx} (hc : X.calm = true) (hu : X.A.units + 64 < cLine) : CallR X (.builtin "max") (rMaxT X.K) := by
  intro pins s σ H vs us Q I r h
  obtain ⟨a, m, ns, rfl, hs, q⟩ := h
  obtain ⟨its, rv, ht, _⟩ := I.tuple hs
  rw [Vals.ref1 r]
  obtain ⟨as, hr⟩ := reads_vals (h := s.heap) rv
  refine PySem.W.max_tuple_data (x := .int m) (xs := ns.map .int) (I.ok.hd hc) ht hr (alike_ints2 (m :: ns)) ?_ fun i v h' tk bs hi hr' hk => ?_
  · have := PySem.W.depth_ints (m :: ns)
    rw [show (PyData.int m :: ns.map .int) = (m :: ns).map PyData.int from rfl, this]
    omega
  · rw [PySem.W.maxD_ints, maxL_fold] at hr'
    cases hr'
    exact ⟨.int _, H, I.kept hk, ⟨_, rfl⟩, q⟩
theorem cr_minT {X : Cx} (hc : X.calm = true) (hu : X.A.units + 64 < cLine) : CallR X (.builtin "min") (rMinT X.K) := by
  intro pins s σ H vs us Q I r h
  obtain ⟨a, m, ns, rfl, hs, q⟩ := h
  obtain ⟨its, rv, ht, _⟩ := I.tuple hs
  rw [Vals.ref1 r]
  obtain ⟨as, hr⟩ := reads_vals (h := s.heap) rv
  refine PySem.W.min_tuple_data (x := .int m) (xs := ns.map .int) (I.ok.hd hc) ht hr (alike_ints2 (m :: ns)) ?_ fun i v h' tk bs hi hr' hk => ?_
  · have := PySem.W.depth_ints (m :: ns)
    rw [show (PyData.int m :: ns.map .int) = (m :: ns).map PyData.int from rfl, this]
    omega
  · rw [PySem.W.minD_ints, minL_fold] at hr'
    cases hr'
    exact ⟨.int _, H, I.kept hk, ⟨_, rfl⟩, q⟩
def maxOp2 : List AV → Mem → Out AV
  | [a], M => match (tupOf a).bind ints? with
    | some (m :: ns) => .ok (.d (.int (maxL m ns))) M
    | _ => maxOp [a] M
  | avs, M => maxOp avs M
def minOp2 : List AV → Mem → Out AV
  | [a], M => match (tupOf a).bind ints? with
    | some (m :: ns) => .ok (.d (.int (minL m ns))) M
    | _ => minOp [a] M
  | avs, M => minOp avs M
section
variable {G : Gm} {W Z B : Addr → Prop} {φ : List Addr} {H : Hp} {M : Mem} {Q : VK} {E : XK} {avs : List AV} {vs : List V}
theorem Rel.tupInts {a : AV} {v : V} {ns : List Int} (r : SR G (Bar W Z) φ H a v) (h : (tupOf a).bind ints? = some ns) : ∃ p, v = .ref p ∧ SqT G.K H p (ns.map V.int) := by
  obtain ⟨xs, e1, e2⟩ := Option.bind_eq_some_iff.mp h
  have e3 := ints_ok e2
  subst e3
  have e : a = .d (.tup (ns.map D.int)) := by
    unfold tupOf at e1
    split at e1
    · cases e1; rfl
    · cases e1
  subst e
  have r2 : RD G (Bar W Z) H (.tup (ns.map D.int)) v := r
  cases r2 with
  | tup h1 h2 =>
    rw [h2.ints] at h1
    exact ⟨_, rfl, h1.sq⟩
theorem max2_run (R : Rel G W Z φ M H) (r : SRs G (Bar W Z) φ H avs vs) (h : Run G Z φ W H (maxOp2 avs M) Q E) : rMaxT G.K vs H Q ∨ (rMax G.K vs H Q ∨ ∃ i j, vs = [.int i, .int j] ∧ Q (.int (if j > i then j else i)) H) := by
  unfold maxOp2 at h
  split at h
  · split at h
    · rename_i m ns e
      left
      obtain ⟨v, rfl, r1⟩ := r.one
      obtain ⟨p, rfl, h1⟩ := Rel.tupInts r1 e
      exact ⟨p, m, ns, rfl, h1, Run.ok R h (.int _) (fun _ z => by cases z)⟩
    · exact .inr (max_run R r h)
  · exact .inr (max_run R r h)
theorem min2_run (R : Rel G W Z φ M H) (r : SRs G (Bar W Z) φ H avs vs) (h : Run G Z φ W H (minOp2 avs M) Q E) : rMinT G.K vs H Q ∨ (rMin G.K vs H Q ∨ ∃ i j, vs = [.int i, .int j] ∧ Q (.int (if j < i then j else i)) H) := by
  unfold minOp2 at h
  split at h
  · split at h
    · rename_i m ns e
      left
      obtain ⟨v, rfl, r1⟩ := r.one
      obtain ⟨p, rfl, h1⟩ := Rel.tupInts r1 e
      exact ⟨p, m, ns, rfl, h1, Run.ok R h (.int _) (fun _ z => by cases z)⟩
    · exact .inr (min_run R r h)
  · exact .inr (min_run R r h)
end
section
variable {X : Cx} {E : WX} {e : Expr} {es : List Expr} {l : SL} {pos p : Pos}
theorem gc_max2 (hu : X.A.units + 65 < cLine) (hc : X.calm = true) (hl : GL X E (e :: es) l) (he : starEach (e :: es) X.env = (false, eval e X.env) :: starEach es X.env) (hpl : (backTo pos (starEach es X.env)).any (·.1) = false) (hg : Gl X "max") (hm : X.mg "max" = none) : GE X E (.Call (.Name "max" p) (e :: es) [] pos) (sArgs maxOp2 l) :=
  ge_bi (fun h => pe_callB ((cr_maxT hc (by omega)).or ((cr_max hc).or (call_max2 hc))) hg hm boot_max h (he := he) (hpl := hpl)) hl fun W Z φ M H avs vs Q E R r h => max2_run R r h
theorem gc_min2 (hu : X.A.units + 65 < cLine) (hc : X.calm = true) (hl : GL X E (e :: es) l) (he : starEach (e :: es) X.env = (false, eval e X.env) :: starEach es X.env) (hpl : (backTo pos (starEach es X.env)).any (·.1) = false) (hg : Gl X "min") (hm : X.mg "min" = none) : GE X E (.Call (.Name "min" p) (e :: es) [] pos) (sArgs minOp2 l) :=
  ge_bi (fun h => pe_callB ((cr_minT hc (by omega)).or ((cr_min hc).or (call_min2 hc))) hg hm boot_min h (he := he) (hpl := hpl)) hl fun W Z φ M H avs vs Q E R r h => min2_run R r h
end
section
variable {β : Type} {kx : Exc → Mem → Out β} {res : Out β} {k : AV → Mem → Out β} {M : Mem}
theorem p_max2 {i j : Int} (h : k (.d (.int (max i j))) M = res) : el (maxOp2 [.d (.int i), .d (.int j)] M) k kx = res := h
theorem p_min2 {i j : Int} (h : k (.d (.int (min i j))) M = res) : el (minOp2 [.d (.int i), .d (.int j)] M) k kx = res := h
theorem max2_t {m : Int} {ns : List Int} : maxOp2 [.d (ti (m :: ns))] M = .ok (.d (.int (maxL m ns))) M := by
  show (match (some ((m :: ns).map D.int)).bind ints? with
    | some (m :: ns) => Out.ok (AV.d (.int (maxL m ns))) M
    | _ => maxOp [.d (ti (m :: ns))] M) = _
  rw [Option.bind_some, ints_map]
theorem min2_t {m : Int} {ns : List Int} : minOp2 [.d (ti (m :: ns))] M = .ok (.d (.int (minL m ns))) M := by
  show (match (some ((m :: ns).map D.int)).bind ints? with
    | some (m :: ns) => Out.ok (AV.d (.int (minL m ns))) M
    | _ => minOp [.d (ti (m :: ns))] M) = _
  rw [Option.bind_some, ints_map]
theorem max2_l {m : Int} {ns : List Int} : maxOp2 [.d (.lst ((m :: ns).map .int))] M = .ok (.d (.int (maxL m ns))) M := by
  show (match (some ((m :: ns).map D.int)).bind ints? with
    | some (m :: ns) => Out.ok (AV.d (.int (maxL m ns))) M
    | _ => .bad) = _
  rw [Option.bind_some, ints_map]
theorem min2_l {m : Int} {ns : List Int} : minOp2 [.d (.lst ((m :: ns).map .int))] M = .ok (.d (.int (minL m ns))) M := by
  show (match (some ((m :: ns).map D.int)).bind ints? with
    | some (m :: ns) => Out.ok (AV.d (.int (minL m ns))) M
    | _ => .bad) = _
  rw [Option.bind_some, ints_map]
end
end Mp

namespace Mp
open PySem L2 PySem.Spec PyProof.Rows

/-! ## drawn rows, loops with continue, known values -/
theorem e_is {α β : Type} {kx : Exc → Mem → Out β} {res : Out β} {k : α → Mem → Out β} {r : Out α} {v : α} {M' : Mem} (e : r = .ok v M') (h : k v M' = res) : el r k kx = res := by rw [e]; exact h
theorem p_addT {β : Type} {kx : Exc → Mem → Out β} {res : Out β} {k : AV → Mem → Out β} {xs ys : List D} {M : Mem} (h : xs.length + ys.length ≤ 1000000) (q : k (.d (.tup (xs ++ ys))) M = res) : el (binop .Add (opnd M (.d (.tup xs))) (opnd M (.d (.tup ys))) M) k kx = res := by rw [add_tup h]; exact q
/-- a comprehension whose items change the state -/
theorem comp_ex {f : SE} {c : SB} {tg : Tg} {vs : List Nat} {env : Env} {I : Mem → Prop} {Pr : D → Prop} : ∀ (items acc : List D) (M : Mem), I M →
    (∀ d ∈ items, ∀ M, I M → ∃ e, tg.bind d (wipeE env vs) = some e ∧ c e M = .ok true M ∧ ∃ av M' x, f e M = .ok av M' ∧ keepD av M' = some (x, M') ∧ Pr x ∧ I M') → acc.length + items.length ≤ 1000000 →
    ∃ xs M', compL f c tg vs [] env items acc M = .ok (.fr (acc ++ xs)) M' ∧ I M' ∧ xs.length = items.length ∧ ∀ x ∈ xs, Pr x
  | [], acc, M, h, _, _ => ⟨[], M, by simp [compL, depsOk], h, rfl, fun x hx => nomatch hx⟩
  | d :: r, acc, M, h, step, hl => by
    obtain ⟨e, e1, e2, av, M1, x, e3, e4, hx, h1⟩ := step d List.mem_cons_self M h
    rw [List.length_cons] at hl
    obtain ⟨xs, M2, e5, h2, h3, h4⟩ := comp_ex r (acc ++ [x]) M1 h1 (fun d hd => step d (.tail _ hd)) (by rw [List.length_append, List.length_singleton]; omega)
    refine ⟨x :: xs, M2, ?_, h2, by rw [List.length_cons, List.length_cons, h3], fun y hy => ?_⟩
    · rw [compL, if_pos (by rfl), e1]
      dsimp only
      rw [e2]
      dsimp only
      rw [e3]
      dsimp only
      rw [e4]
      dsimp only
      have hs : acc.length < sizeLine := Nat.lt_of_lt_of_le (show acc.length < 1000001 by omega) (by decide)
      rw [if_pos hs, e5, List.append_assoc, List.singleton_append]
    · rcases List.mem_cons.mp hy with rfl | hy
      · exact hx
      · exact h4 y hy
/-- a loop whose body may go on early -/
theorem for_okC {body : SS} {tg : Tg} {I : Env → Mem → Prop} : ∀ (items : List D) (step : ∀ d ∈ items, ∀ env M, I env M → ∃ e env' M', tg.bind d env = some e ∧ (body e M = .ok (.next env') M' ∨ body e M = .ok (.cont env') M') ∧ I env' M') (env : Env) (M : Mem), I env M → ∃ env' M', forL body tg [] items env M = .ok (.next env') M' ∧ I env' M'
  | [], _, env, M, h => ⟨env, M, rfl, h⟩
  | d :: r, step, env, M, h => by
    obtain ⟨e, env1, M1, e1, e2, h1⟩ := step d List.mem_cons_self env M h
    obtain ⟨env2, M2, e3, h2⟩ := for_okC r (fun d hd => step d (.tail _ hd)) env1 M1 h1
    refine ⟨env2, M2, ?_, h2⟩
    rw [forL, if_pos (by rfl), e1]
    dsimp only
    rcases e2 with e2 | e2
    · rw [e2, Out.bind_ok]
      exact e3
    · rw [e2, Out.bind_ok]
      exact e3
end Mp

set_option maxHeartbeats 4000000
namespace Mp
open PySem L2 PySem.Spec PyProof.Rows

/-! ## sorted(set(..)) of ints -/
section
variable {P : Program} {w : World} {A : Around} {E : Value → Shared → Prop} {s : Shared}
/-- the empty set that is laid first -/
abbrev set0 (w : World) : Obj := { cls := .type "set", dict := none, data := .set #[] 0 (.fresh 0 0 (!w.params.followText "set-order")) }
/-- what set(l) leaves -/
abbrev SetLeft (w : World) (s : Shared) (ns : List Int) (s2 : Shared) : Prop := ∃ h2 t2 c, s2 = { s with heap := h2, toks := t2 } ∧ SetR w h2 s.heap.objs.size (fun j => decide (j ∈ ns)) c ∧ c ≤ ns.length ∧ ∀ b o, s.heap.get? b = some o → h2.get? b = some o
theorem set_from_list {l : Addr} {its : Array Value} (ns : List Int) {Q : Value → Shared → Prop} (hh : A.handled = none) (hl : s.heap.IsList l its) (hi : IntsAre its.toList ns) (hb : ns.length + 1 < scanBound)
    (q : ∀ s2, SetLeft w s ns s2 → Q (.ref s.heap.objs.size) s2) : wpAny (model P w) A (call (.type "set") [.ref l]) Q E s := by
  have hn : its.size = ns.length := by rw [← Array.length_toList]; exact IntsAre.length hi
  have vals : ∀ (i : Nat) (v : Value), its[i]? = some v → ∃ k t, ns[i]? = some k ∧ v = .int k t := fun i v hv => by
    obtain ⟨lt, _⟩ := Array.getElem?_eq_some_iff.mp hv
    obtain ⟨t, e⟩ := PyProof.Rows.IntsAre.int_at hi i v (by rw [Array.getElem?_toList]; exact hv)
    have lt2 : i < ns.length := hn ▸ lt
    exact ⟨ns[i], t, List.getElem?_eq_getElem lt2, by rw [e, List.getD_eq_getElem?_getD, List.getElem?_eq_getElem lt2]; rfl⟩
  obtain ⟨c0, tl, mro⟩ := F.called_set.mro
  have f1 := F.called_set.made
  have f2 := F.called_set.sub
  have f3 := F.called_set.notType
  have f4 := F.called_set.canCreate
  have f5 := F.typeCall_set_1 (.ref l)
  have wt := weight_type_call_type "set" [.ref l] []
  refine wpAny_call (codeAny_of_tree (wpAny_pure (α := _) ⟨Code.quiet_builtin _ (by decide +kernel), codeAny_builtin F.entry_type_call ?_⟩))
  rw [Around.under_plain wt rfl]
  repeat (any_goals (first | assumption | wp_step))
  -- the object
  have made := code_set_led1 (P := P) (w := w) (A := A.in1) (s := s) (.ref l) (E := E) (Q₁ := fun x s1 => x = .ref s.heap.objs.size ∧ s1 = { s with heap := s.heap.push (set0 w) }) ⟨rfl, rfl⟩
  refine codeAny_mono made fun r s1 hr => ?_
  match r, hr with
  | .error e, hr => exact hr
  | .ok (.ret x), hr =>
    obtain ⟨rfl, rfl⟩ := hr
    have at0 : (s.heap.push (set0 w)).get? s.heap.objs.size = some (set0 w) := Heap.get?_push_size _ rfl
    have ty : Shared.TypeIs { s with heap := s.heap.push (set0 w) } (.ref s.heap.objs.size) "set" := ⟨_, at0, rfl⟩
    have g1 := F.called_set.init.lookup
    have g2 := F.called_set.init.bind (.ref s.heap.objs.size)
    repeat (any_goals (first | assumption | wp_step))
    have done := codeAny_call_builtin (prog := P) (w := w) (A := A.in1) (s := { s with heap := s.heap.push (set0 w) }) (R := wants (fun r s2 => r = .none ∧ SetLeft w s ns s2) E) F.called_set.init.plain F.entry_set_init (check_set_init_1 (a := .ref l) ty ?_)
    · refine codeAny_mono done fun r s2 hr2 => ?_
      match r, hr2 with
      | .error e, hr2 => exact hr2
      | .ok (.ret x), hr2 =>
        obtain ⟨rfl, left⟩ := hr2
        repeat (any_goals (first | assumption | wp_step))
        exact q s2 left
      | .ok .next, hr2 => exact hr2.elim
      | .ok .brk, hr2 => exact hr2.elim
      | .ok .cont, hr2 => exact hr2.elim
    · obtain ⟨⟨cl, di, da, so⟩, e1, e2, nl, e3⟩ := hl
      simp only at e2 e3
      subst e2; subst e3
      have e4 : (s.heap.push (set0 w)).get? l = some { cls := .type "list", dict := di, data := .seq its nl, slots := so } := Heap.get?_push_of_some _ e1
      have lst : (s.heap.push (set0 w)).IsList l its := ⟨_, e4, rfl, nl, rfl⟩
      have f6 := F.sub_list_set
      have f7 := F.sub_list_frozenset
      have f8 : (Value.type "list" == Value.type "dict") = false := by decide
      have ltl : l < s.heap.objs.size := Heap.lt_size e1
      have sz : (s.heap.push (set0 w)).objs.size = s.heap.objs.size + 1 := Heap.size_push ..
      unfold Builtin.«set.__init__» noKeywords
      unfold Builtin.Frozenset.updateFrom
      generalize gI : pyIter = itr
      wp_walk
      subst gI
      refine wpAny_pyIter_list lst (wpAny_bind (wpAny_runValue ?_))
      have ne1 : l ≠ (s.heap.push (set0 w)).objs.size := sz ▸ Nat.ne_of_lt (Nat.lt_succ_of_lt ltl)
      have ne2 : s.heap.objs.size ∉ [(s.heap.push (set0 w)).objs.size, l] := fun z => by
        rcases List.mem_cons.mp z with z | z
        · exact Nat.ne_of_lt (Nat.lt_succ_self _) (z.trans sz)
        · exact Nat.ne_of_gt ltl (List.mem_singleton.mp z)
      refine set_update_ints ((Walks.list (by simp [hh]) _ l ne1 its).toS) s.heap.objs.size ne2 ns hn hb vals its.size 0 _ (by omega) (Nat.zero_le _) ?st ⟨0, Nat.le_refl 0, setR_new_at (Heap.get?_push_of_some _ at0)⟩ ?fin
      case st => exact ⟨⟨_, Heap.get?_push_size _ rfl, rfl, rfl⟩, lst.push _⟩
      case fin =>
        intro s2 c mv hc sr
        obtain ⟨hp, gs, dr, tk, os⟩ := s2
        have k1 : gs = s.gens := mv.gens
        have k2 : dr = s.drawn := mv.drawn
        have k3 : os = s.os := mv.os
        subst k1 k2 k3
        refine wpAny_pure (wpAny_pure ⟨rfl, hp, tk, c, rfl, sr, hn ▸ hc, fun b o e => ?_⟩)
        have lb : b < s.heap.objs.size := Heap.lt_size e
        refine mv.heap b o (fun z => ?_) (Heap.get?_push_of_some _ (Heap.get?_push_of_some _ e))
        rcases List.mem_cons.mp z with z | z
        · exact Nat.ne_of_lt lb z
        · exact Nat.ne_of_lt (Nat.lt_succ_of_lt lb) ((List.mem_singleton.mp z).trans sz)
  | .ok .next, hr => exact hr.elim
  | .ok .brk, hr => exact hr.elim
  | .ok .cont, hr => exact hr.elim
end
/-- set(t), of a list or a tuple of ints -/
def rSetI (K : PySem.W.Frag) (w : World) : List V → Hp → VK → Prop := fun vs H Q => ∃ (p : Addr) (ns : List Int), vs = [V.ref p] ∧ (SqT K H p (ns.map V.int) ∨ SqL K H p (ns.map V.int)) ∧ ns.length ≤ 1000 ∧
  ∀ (a : Addr) (S : Int → Bool) (n : Nat), H a = none → (∀ k, S k = true ↔ k ∈ ns) → n ≤ ns.length → Q (.ref a) (upd H a (SetO w a S n))
section
variable {X : Cx}
theorem set_laid {pins : List (Addr × Obj)} {σ : L2.St} {H : Hp} {s : Shared} {ns : List Int} {Q : VK} (I : Inv X pins σ H s)
    (q : ∀ (a : Addr) (S : Int → Bool) (n : Nat), H a = none → (∀ k, S k = true ↔ k ∈ ns) → n ≤ ns.length → Q (.ref a) (upd H a (SetO X.w a S n))) {h2 : Heap} {t2 c : Nat} (R : SetR X.w h2 s.heap.objs.size (fun j => decide (j ∈ ns)) c) (hc : c ≤ ns.length) (kp : ∀ b o, s.heap.get? b = some o → h2.get? b = some o) :
    EP X pins σ Q (.ref s.heap.objs.size) { s with heap := h2, toks := t2 } := by
  have fr : H s.heap.objs.size = none := I.hok.fresh (Nat.le_refl _)
  exact ⟨.ref _, _, I.laid (t' := t2) kp (Nat.le_refl _) (setO_new R), rfl, q _ _ c fr (fun k => decide_eq_true_iff) hc⟩
theorem cr_setI (hc : X.calm = true) : CallR X (.type "set") (rSetI X.K X.w) := by
  intro pins s σ H vs us Q I r h
  obtain ⟨p, ns, rfl, hq, hl, q⟩ := h
  have hd := I.ok.hd hc
  have hb : ns.length + 1 < scanBound := by unfold scanBound; omega
  rw [Vals.ref1 r]
  rcases hq with hq | hq
  · obtain ⟨its, rv, pt, _⟩ := I.tuple hq
    exact call_set_tupI ns hd (show s.heap.IsTuple p its.toArray from pt) (ints_of_vals rv) hb fun h2 t2 c R hn kp => set_laid I q R hn kp
  · obtain ⟨its, rv, pl, _⟩ := I.list hq
    refine set_from_list ns hd pl.isList (ints_of_vals rv) hb fun s2 left => ?_
    obtain ⟨h2, t2, c, rfl, R, hn, kp⟩ := left
    exact set_laid I q R hn kp
end
/-! ### the members in order -/
theorem nodup_eraseDupsI : ∀ (n : Nat) (ns : List Int), ns.length ≤ n → ns.eraseDups.Nodup
  | _, [], _ => List.nodup_nil
  | 0, x :: r, h => by rw [List.length_cons] at h; omega
  | n + 1, x :: r, h => by
    rw [List.length_cons] at h
    rw [List.eraseDups_cons, List.nodup_cons]
    refine ⟨fun hm => ?_, nodup_eraseDupsI n _ (Nat.le_trans (List.length_filter_le _ _) (by omega))⟩
    have := List.mem_eraseDups.mp hm
    rw [List.mem_filter] at this
    simp at this
def sortU (ns : List Int) : List Int := sortI ns.eraseDups
theorem sorted_lt_ext : ∀ (a b : List Int), a.Pairwise (· < ·) → b.Pairwise (· < ·) → (∀ k, k ∈ a ↔ k ∈ b) → a = b
  | [], [], _, _, _ => rfl
  | [], y :: b, _, _, h => absurd ((h y).mpr List.mem_cons_self) (by simp)
  | x :: a, [], _, _, h => absurd ((h x).mp List.mem_cons_self) (by simp)
  | x :: a, y :: b, ha, hb, h => by
    rw [List.pairwise_cons] at ha hb
    have e : x = y := by
      rcases List.mem_cons.mp ((h x).mp List.mem_cons_self) with e | e
      · exact e
      · rcases List.mem_cons.mp ((h y).mpr List.mem_cons_self) with e2 | e2
        · exact e2.symm
        · have := ha.1 y e2
          have := hb.1 x e
          omega
    subst e
    rw [sorted_lt_ext a b ha.2 hb.2 fun k => ?_]
    constructor
    · intro hk
      rcases List.mem_cons.mp ((h k).mp (.tail _ hk)) with e | e
      · have := ha.1 k hk
        omega
      · exact e
    · intro hk
      rcases List.mem_cons.mp ((h k).mpr (.tail _ hk)) with e | e
      · have := hb.1 k hk
        omega
      · exact e
theorem sortU_mem {ns : List Int} {k : Int} : k ∈ sortU ns ↔ k ∈ ns := by
  unfold sortU
  rw [(sortI_perm _).mem_iff, List.mem_eraseDups]
theorem sortU_lt (ns : List Int) : (sortU ns).Pairwise (· < ·) := by
  have h1 := sortI_sorted ns.eraseDups
  have h2 : (sortI ns.eraseDups).Nodup := (sortI_perm _).nodup_iff.mpr (nodup_eraseDupsI _ _ (Nat.le_refl _))
  unfold sortU
  refine (h1.and h2).imp fun {a b} h => ?_
  obtain ⟨x, y⟩ := h
  omega
/-! ### sorted(set(e)) -/
def seqOf (M : Mem) (a : AV) : Option (List D) := match tupOf a with
  | some xs => some xs
  | none => lstOf M a
def sortSetOp (a : AV) (M : Mem) : Out AV := match (tupOf a).bind ints?, (lstOf M a).bind ints? with
  | some ns, _ => if ns.length < 64 then .ok (.fr ((sortU ns).map D.int)) M else .bad
  | none, some ns => if ns.length < 64 then .ok (.fr ((sortU ns).map D.int)) M else .bad
  | none, none => .bad
def sSortSet (f : SE) : SE := sOne sortSetOp f
section
variable {G : Gm} {W Z : Addr → Prop} {φ : List Addr} {H : Hp} {M : Mem} {Q : VK} {E : XK} {v : V} {w : World}
theorem sortSet_run {a : AV} (R : Rel G W Z φ M H) (r : SR G (Bar W Z) φ H a v) (h : Run G Z φ W H (sortSetOp a M) Q E) : rSetI G.K w [v] H fun y H2 => rSortedSet w [y] H2 Q := by
  have main : ∀ ns : List Int, (∃ p, v = .ref p ∧ (SqT G.K H p (ns.map V.int) ∨ SqL G.K H p (ns.map V.int))) → Run G Z φ W H (if ns.length < 64 then .ok (.fr ((sortU ns).map D.int)) M else .bad) Q E → rSetI G.K w [v] H fun y H2 => rSortedSet w [y] H2 Q := fun ns ⟨p, e, hq⟩ h => by
    subst e
    split at h
    · rename_i h64
      refine ⟨p, ns, rfl, hq, by omega, fun a S n ha hS hn => ⟨a, S, n, rfl, upd_same, by omega, fun ms q hs hm _ hq => ?_⟩⟩
      have e : ms = sortU ns := sorted_lt_ext _ _ hs (sortU_lt ns) fun k => by rw [hm k, hS k, sortU_mem]
      subst e
      exact Run.new (R.laid0 ha) (Run.later (Ext.laid R ha) h) (RDs.of_ints _) q hq
    · exact h.elim
  unfold sortSetOp at h
  split at h
  · rename_i ns e
    obtain ⟨p, rfl, h1⟩ := Rel.tupInts r e
    exact main ns ⟨p, rfl, .inl h1⟩ h
  · rename_i _ ns _ e
    obtain ⟨p, rfl, h1⟩ := R.ints r e
    exact main ns ⟨p, rfl, .inr h1⟩ h
  · exact h.elim
end
section
variable {X : Cx} {E : WX} {e : Expr} {f : SE} {pos p p2 q : Pos}
theorem ge_sortset (hc : X.calm = true) (he : GE X E e f) (hg : Gl X "sorted") (hm : X.mg "sorted" = none) (hg2 : Gl X "set") (hm2 : X.mg "set" = none) (hs : starEach [e] X.env = [(false, eval e X.env)])
    (hs2 : starEach [.Call (.Name "set" p2) [e] [] q] X.env = [(false, eval (.Call (.Name "set" p2) [e] [] q) X.env)]) : GE X E (.Call (.Name "sorted" p) [.Call (.Name "set" p2) [e] [] q] [] pos) (sSortSet f) :=
  PE.imp (pe_callB (cr_sortedSet hc) hg hm boot_sorted (pa_cons (pe_callTy (cr_setI hc) hg2 hm2 PyProof.Rows.boot_set (pa_cons he pa_nil (hs := hs)) (he := hs)) pa_nil (hs := hs2)) (he := hs2)) fun σ H Q ⟨W, Z, φ, env, M, R, Er, h⟩ =>
    ⟨W, Z, φ, env, M, R, Er, (Run.bind h).imp fun v H1 ⟨W1, M1, x, _, R1, x1, r1, h2⟩ => sortSet_run R1 r1.sr h2⟩
end
end Mp

set_option maxHeartbeats 4000000
namespace Mp
open PySem L2 PySem.Spec PyProof.Rows

/-! ## calls without arguments; tuple(range(..)), list(range(..)); list.index -/
section
variable {X : Cx} {E : WX} {k : Nat} {p pos : Pos}
theorem ge_call0 {x : Str} {F : List AV → Mem → Out AV} (c : Cald X k x F) (hr : Room k X.A) (tk : Takes X E) (hg : Gl X x) (hdb : (x == ("__debug__" : Str)) = false) : GE X E (.Call (.Name x p) [] [] pos) (sArgs F sNil) := by
  obtain ⟨f, fd, ps, h1, h2, h3, h4⟩ := c.ex
  refine ⟨fun pins s σ H Q I h => ?_⟩
  obtain ⟨W, Z, φ, env, M, R, Er, h⟩ := h
  refine wpAny_Call_Name_kw (ld_glob I hg h1 ?_ hdb)
  exact PySem.W.callWith_K0 I.kIn h2 (run_fnS (E := fun σ c d H' => E c d σ H') (us := []) h4 hr h3 (passAt tk σ) I .nil ⟨W, Z, φ, M, [], R, trivial, h⟩)
end
/-! ### range brought into a tuple, a list -/
def rgOk (a b : Int) : Bool := decide (-(2 ^ 62) ≤ a ∧ a < 2 ^ 62 ∧ -(2 ^ 62) ≤ b ∧ b < 2 ^ 62 ∧ (b - a).toNat ≤ 2 ^ 24)
def rgTOp : AV → AV → Mem → Out AV
  | .d (.int a), .d (.int b), M => guard (rgOk a b) (.ok (.d (.tup (rngL a (b - a).toNat))) M)
  | _, _, _ => .bad
def rgLOp : AV → AV → Mem → Out AV
  | .d (.int a), .d (.int b), M => guard (rgOk a b) (.ok (.fr (rngL a (b - a).toNat)) M)
  | _, _, _ => .bad
def sRgT (f g : SE) : SE := sTwo rgTOp f g
def sRgL (f g : SE) : SE := sTwo rgLOp f g
def sRgT1 (f : SE) : SE := sOne (rgTOp (.d (.int 0))) f
def sRgL1 (f : SE) : SE := sOne (rgLOp (.d (.int 0))) f
section
variable {G : Gm} {W Z B : Addr → Prop} {φ : List Addr} {H : Hp} {M : Mem} {Q : VK} {E : XK} {v u : V}
theorem rds_rg (a b : Int) : RDs G B H (rngL a (b - a).toNat) (rgV a b) := by
  have h := RDs.of_ints (G := G) (W := B) (H := H) ((List.range (b - a).toNat).map fun k : Nat => a + (k : Int))
  rw [List.map_map, List.map_map] at h
  exact h
theorem rgT_run {x y : AV} (R : Rel G W Z φ M H) (r1 : SR G (Bar W Z) φ H x v) (r2 : SR G (Bar W Z) φ H y u) (h : Run G Z φ W H (rgTOp x y M) Q E) : ∃ i j, v = .int i ∧ u = .int j ∧ RgOk i j ∧ ∀ q, H q = none → Q (.ref q) (upd H q (.tup (rgV i j))) := by
  unfold rgTOp at h
  split at h
  · cases r1
    cases r2
    obtain ⟨g, h⟩ := guard_run (P := fun r => Run G Z φ W H r Q E) h (fun z => z)
    have g2 := of_decide_eq_true (show decide _ = true from g)
    exact ⟨_, _, rfl, rfl, g2, Run.tup R h (rds_rg _ _)⟩
  · exact h.elim
theorem rgL_run {x y : AV} (R : Rel G W Z φ M H) (r1 : SR G (Bar W Z) φ H x v) (r2 : SR G (Bar W Z) φ H y u) (h : Run G Z φ W H (rgLOp x y M) Q E) : ∃ i j, v = .int i ∧ u = .int j ∧ RgOk i j ∧ ∀ q, H q = none → Q (.ref q) (upd H q (.lst (rgV i j))) := by
  unfold rgLOp at h
  split at h
  · cases r1
    cases r2
    obtain ⟨g, h⟩ := guard_run (P := fun r => Run G Z φ W H r Q E) h (fun z => z)
    have g2 := of_decide_eq_true (show decide _ = true from g)
    exact ⟨_, _, rfl, rfl, g2, Run.new R h (rds_rg _ _)⟩
  · exact h.elim
end
section
variable {X : Cx} {E : WX} {a b : Expr} {f g : SE} {pos p p2 q : Pos}
theorem ge_rgT (hc : X.calm = true) (hg : Gl X "tuple") (hm : X.mg "tuple" = none) (hg2 : Gl X "range") (hm2 : X.mg "range" = none) (ha : GE X E a f) (hb : GE X E b g)
    (n1 : starEach [a, b] X.env = (false, eval a X.env) :: starEach [b] X.env) (n2 : starEach [b] X.env = (false, eval b X.env) :: starEach [] X.env) (n3 : (backTo q (starEach [b] X.env)).any (·.1) = false)
    (n4 : starEach [.Call (.Name "range" p2) [a, b] [] q] X.env = (false, eval (.Call (.Name "range" p2) [a, b] [] q) X.env) :: starEach [] X.env) : GE X E (.Call (.Name "tuple" p) [.Call (.Name "range" p2) [a, b] [] q] [] pos) (sRgT f g) :=
  PE.imp (pe_tupRg hc hg hm (prg_2 hg2 hm2 ha hb (na := n1) (nb := n2) (hp := n3)) (na := n4)) fun σ H Q ⟨W, Z, φ, env, M, R, Er, h⟩ =>
    ⟨W, Z, φ, env, M, R, Er, (Run.bind h).imp fun v H1 ⟨W1, M1, x, _, R1, x1, r1, h2⟩ =>
      ⟨W1, Z, φ, env, M1, R1, Er.ext x1.bar, (Run.bind h2).imp fun u H2 ⟨W2, M2, y, _, R2, x2, r2, h4⟩ => rgT_run R2 (r1.sr.ext x2.bar) r2.sr h4⟩⟩
theorem ge_rgL (hc : X.calm = true) (hg : Gl X "list") (hm : X.mg "list" = none) (hg2 : Gl X "range") (hm2 : X.mg "range" = none) (ha : GE X E a f) (hb : GE X E b g)
    (n1 : starEach [a, b] X.env = (false, eval a X.env) :: starEach [b] X.env) (n2 : starEach [b] X.env = (false, eval b X.env) :: starEach [] X.env) (n3 : (backTo q (starEach [b] X.env)).any (·.1) = false)
    (n4 : starEach [.Call (.Name "range" p2) [a, b] [] q] X.env = (false, eval (.Call (.Name "range" p2) [a, b] [] q) X.env) :: starEach [] X.env) : GE X E (.Call (.Name "list" p) [.Call (.Name "range" p2) [a, b] [] q] [] pos) (sRgL f g) :=
  PE.imp (pe_listRg hc hg hm (prg_2 hg2 hm2 ha hb (na := n1) (nb := n2) (hp := n3)) (na := n4)) fun σ H Q ⟨W, Z, φ, env, M, R, Er, h⟩ =>
    ⟨W, Z, φ, env, M, R, Er, (Run.bind h).imp fun v H1 ⟨W1, M1, x, _, R1, x1, r1, h2⟩ =>
      ⟨W1, Z, φ, env, M1, R1, Er.ext x1.bar, (Run.bind h2).imp fun u H2 ⟨W2, M2, y, _, R2, x2, r2, h4⟩ => rgL_run R2 (r1.sr.ext x2.bar) r2.sr h4⟩⟩
theorem ge_rgT1 (hc : X.calm = true) (hg : Gl X "tuple") (hm : X.mg "tuple" = none) (hg2 : Gl X "range") (hm2 : X.mg "range" = none) (ha : GE X E a f)
    (n1 : starEach [a] X.env = (false, eval a X.env) :: starEach [] X.env)
    (n4 : starEach [.Call (.Name "range" p2) [a] [] q] X.env = (false, eval (.Call (.Name "range" p2) [a] [] q) X.env) :: starEach [] X.env) : GE X E (.Call (.Name "tuple" p) [.Call (.Name "range" p2) [a] [] q] [] pos) (sRgT1 f) :=
  PE.imp (pe_tupRg hc hg hm (prg_1 hg2 hm2 ha (na := n1)) (na := n4)) fun σ H Q ⟨W, Z, φ, env, M, R, Er, h⟩ =>
    ⟨W, Z, φ, env, M, R, Er, (Run.bind h).imp fun v H1 ⟨W1, M1, x, _, R1, x1, r1, h2⟩ => by
      obtain ⟨i, j, e1, e2, ok, k⟩ := rgT_run (v := .int 0) R1 (show SR (gm X) _ φ H1 (.d (.int 0)) (.int 0) from RD.int 0) r1.sr h2
      cases e1
      exact ⟨j, e2, ok, k⟩⟩
theorem ge_rgL1 (hc : X.calm = true) (hg : Gl X "list") (hm : X.mg "list" = none) (hg2 : Gl X "range") (hm2 : X.mg "range" = none) (ha : GE X E a f)
    (n1 : starEach [a] X.env = (false, eval a X.env) :: starEach [] X.env)
    (n4 : starEach [.Call (.Name "range" p2) [a] [] q] X.env = (false, eval (.Call (.Name "range" p2) [a] [] q) X.env) :: starEach [] X.env) : GE X E (.Call (.Name "list" p) [.Call (.Name "range" p2) [a] [] q] [] pos) (sRgL1 f) :=
  PE.imp (pe_listRg hc hg hm (prg_1 hg2 hm2 ha (na := n1)) (na := n4)) fun σ H Q ⟨W, Z, φ, env, M, R, Er, h⟩ =>
    ⟨W, Z, φ, env, M, R, Er, (Run.bind h).imp fun v H1 ⟨W1, M1, x, _, R1, x1, r1, h2⟩ => by
      obtain ⟨i, j, e1, e2, ok, k⟩ := rgL_run (v := .int 0) R1 (show SR (gm X) _ φ H1 (.d (.int 0)) (.int 0) from RD.int 0) r1.sr h2
      cases e1
      exact ⟨j, e2, ok, k⟩⟩
end
/-! ### list.index of an int among ints -/
def sIndex (fo fe : SE) : SE := fun env M => (fo env M).bind fun o M1 => match lstOf M1 o with
  | none => .bad
  | some _ => (fe env M1).bind fun x M2 => match (lstOf M2 o).bind ints?, x with
    | some ns, .d (.int k) => if ns.idxOf k < ns.length then .ok (.d (.int (ns.idxOf k : Nat))) M2 else .bad
    | _, _ => .bad
section
variable {X : Cx} {E : WX} {o e : Expr} {fo fe : SE} {apos pos : Pos}
theorem flat_ints (ns : List Int) : (ns.map V.int).all flatV = true := by
  rw [List.all_map]
  exact List.all_eq_true.mpr fun n _ => rfl
theorem idxOf_get {ns : List Int} {k : Int} (h : ns.idxOf k < ns.length) : ns[ns.idxOf k]? = some k := by
  rw [List.getElem?_eq_getElem h, List.getElem_idxOf]
theorem idxOf_lt {ns : List Int} {k : Int} {m : Nat} (h : m < ns.idxOf k) : ns[m]? ≠ some k := fun e => by
  obtain ⟨hm, e⟩ := List.getElem?_eq_some_iff.mp e
  have := List.not_of_lt_findIdx (p := fun x => x == k) h
  rw [e] at this
  simp at this
theorem gm_index (ho : GE X E o fo) (he : GE X E e fe) (hbase : attributeBase o "index" X.env (eval o X.env) = eval o X.env)
    (hfew : ((backTo pos (starEach [e] X.env)).all (fun x => !x.1) && (backToKw pos (keywordEach [] X.env)).all (fun x => x.1.isSome) && decide (([e] : List Expr).length + ([] : List Keyword).length + (if ([] : List Keyword).isEmpty then 0 else 1) < 30)) = true)
    (hline : (apos.endLine == pos.line) = true) (hs : starEach [e] X.env = (false, eval e X.env) :: starEach [] X.env) (hplain : (backTo pos (starEach ([] : List Expr) X.env)).any (·.1) = false) :
    GE X E (.Call (.Attribute o "index" apos) [e] [] pos) (sIndex fo fe) :=
  PE.imp (pe_bm F.plainAttrs_list F.slot_list_index F.type_list_index mt_index ho (pa_cons he pa_nil hs) (hbase := hbase) (hfew := hfew) (hline := hline) (hs := hs) (hplain := hplain)) fun σ H Q ⟨W, Z, φ, env, M, R, Er, h⟩ =>
    ⟨W, Z, φ, env, M, R, Er, (Run.bind h).imp fun v H1 ⟨W1, M1, x, _, R1, x1, r1, h2⟩ => by
      cases e1 : lstOf M1 x with
      | none => rw [e1] at h2; exact h2.elim
      | some xs =>
        rw [e1] at h2
        dsimp only at h2
        obtain ⟨p, us, rfl, hq, _, _⟩ := R1.lst r1.sr e1
        refine ⟨.inl ⟨rfl, _, hq⟩, W1, Z, φ, env, M1, R1, Er.ext x1.bar, (Run.bind h2).imp fun u H2 ⟨W2, M2, y, _, R2, x2, r2, h3⟩ => ?_⟩
        split at h3
        · rename_i ns k e2 _
          split at h3
          · rename_i hk
            obtain ⟨p2, e3, h4⟩ := R2.ints (r1.sr.ext x2.bar) e2
            cases r2
            rw [e3]
            refine ⟨p2, ns.map V.int, .int k, ns.idxOf k, .int k, rfl, rfl, h4, rfl, flat_ints ns, ?_, ?_, fun m z hm hz => ?_, Run.ok R2 h3 (.int _) (fun _ z => by cases z)⟩
            · rw [List.getElem?_map, idxOf_get hk]
              rfl
            · simp [eqV]
            · rw [List.getElem?_map] at hz
              obtain ⟨n, hn, rfl⟩ := Option.map_eq_some_iff.mp hz
              have := idxOf_lt hm
              simp [eqV]
              intro e
              subst e
              exact this hn
          · exact h3.elim
        · exact h3.elim⟩
end
end Mp

namespace Mp
open PySem L2 PySem.Spec PyProof.Rows

/-! ## walks over mapped lists -/
section
variable {α : Type} {φ : α → D}
theorem comp_map {f : SE} {c : SB} {tg : Tg} {vs : List Nat} {env : Env} {M : Mem} (g : α → D) (p : α → Bool) : ∀ (xs : List α) (acc : List D),
    (∀ a ∈ xs, ∃ e, tg.bind (φ a) (wipeE env vs) = some e ∧ c e M = .ok (p a) M ∧ (p a = true → ∃ av, f e M = .ok av M ∧ keepD av M = some (g a, M))) → acc.length + xs.length ≤ 1000000 →
    compL f c tg vs [] env (xs.map φ) acc M = .ok (.fr (acc ++ (xs.filter p).map g)) M
  | [], acc, _, _ => by simp [compL, depsOk]
  | a :: r, acc, h, hl => by
    obtain ⟨e, e1, e2, e3⟩ := h a List.mem_cons_self
    have hr := fun d hd => h d (.tail _ hd)
    rw [List.length_cons] at hl
    rw [List.map_cons, compL, if_pos (by rfl), e1]
    dsimp only
    rw [e2]
    cases hp : p a with
    | false =>
      dsimp only
      rw [comp_map g p r acc hr (by omega), List.filter_cons_of_neg (by rw [hp]; decide)]
    | true =>
      obtain ⟨av, e4, e5⟩ := e3 hp
      dsimp only
      rw [e4]
      dsimp only
      rw [e5]
      dsimp only
      have hs : acc.length < sizeLine := Nat.lt_of_lt_of_le (show acc.length < 1000001 by omega) (by decide)
      rw [if_pos hs, comp_map g p r (acc ++ [g a]) hr (by rw [List.length_append, List.length_singleton]; omega), List.filter_cons_of_pos hp, List.map_cons, List.append_assoc, List.singleton_append]
theorem e_compM {β : Type} {kx : Exc → Mem → Out β} {res : Out β} {k : AV → Mem → Out β} {f : SE} {c : SB} {tg : Tg} {vs : List Nat} {env : Env} {M : Mem} (xs : List α) (g : α → D) (p : α → Bool)
    (h : ∀ a ∈ xs, ∃ e, tg.bind (φ a) (wipeE env vs) = some e ∧ c e M = .ok (p a) M ∧ (p a = true → ∃ av, f e M = .ok av M ∧ keepD av M = some (g a, M))) (hl : xs.length ≤ 1000000)
    (q : k (.fr ((xs.filter p).map g)) M = res) : el (compL f c tg vs [] env (xs.map φ) [] M) k kx = res := by
  rw [comp_map g p xs [] h (by simpa using hl)]
  exact q
/-- no condition -/
theorem e_compA {β : Type} {kx : Exc → Mem → Out β} {res : Out β} {k : AV → Mem → Out β} {f : SE} {tg : Tg} {vs : List Nat} {env : Env} {M : Mem} (xs : List α) (g : α → D)
    (h : ∀ a ∈ xs, ∃ e, tg.bind (φ a) (wipeE env vs) = some e ∧ ∃ av, f e M = .ok av M ∧ keepD av M = some (g a, M)) (hl : xs.length ≤ 1000000)
    (q : k (.fr (xs.map g)) M = res) : el (compL f sYes tg vs [] env (xs.map φ) [] M) k kx = res :=
  e_compM xs g (fun _ => true) (fun a ha => by
    obtain ⟨e, e1, av, e2⟩ := h a ha
    exact ⟨e, e1, rfl, fun _ => ⟨av, e2⟩⟩) hl (by rw [List.filter_eq_self.mpr (fun _ _ => rfl)]; exact q)
/-- a loop: what holds of what was walked -/
theorem for_pre {body : SS} {tg : Tg} {I : List α → Env → Mem → Prop} : ∀ (rest done : List α) (step : ∀ d a r, done ++ rest = d ++ a :: r → ∀ env M, I d env M → ∃ e env' M', tg.bind (φ a) env = some e ∧ body e M = .ok (.next env') M' ∧ I (d ++ [a]) env' M') (env : Env) (M : Mem), I done env M →
    ∃ env' M', forL body tg [] (rest.map φ) env M = .ok (.next env') M' ∧ I (done ++ rest) env' M'
  | [], done, _, env, M, h => ⟨env, M, rfl, by rw [List.append_nil]; exact h⟩
  | a :: r, done, step, env, M, h => by
    obtain ⟨e, env1, M1, e1, e2, h1⟩ := step done a r rfl env M h
    obtain ⟨env2, M2, e3, h2⟩ := for_pre r (done ++ [a]) (fun d b q hq => step d b q (by rw [← hq, List.append_assoc]; rfl)) env1 M1 h1
    refine ⟨env2, M2, ?_, by rw [List.append_assoc] at h2; exact h2⟩
    rw [List.map_cons, forL, if_pos (by rfl), e1]
    dsimp only
    rw [e2, Out.bind_ok]
    exact e3
theorem e_pre {β : Type} {kx : Exc → Mem → Out β} {res : Out β} {k : Fl → Mem → Out β} {body : SS} {tg : Tg} {env : Env} {M : Mem} (xs : List α) (I : List α → Env → Mem → Prop) (h0 : I [] env M)
    (step : ∀ d a r, xs = d ++ a :: r → ∀ env M, I d env M → ∃ e env' M', tg.bind (φ a) env = some e ∧ body e M = .ok (.next env') M' ∧ I (d ++ [a]) env' M') (h : ∀ env' M', I xs env' M' → k (.next env') M' = res) : el (forL body tg [] (xs.map φ) env M) k kx = res := by
  obtain ⟨env', M', e, q⟩ := for_pre (φ := φ) (I := I) xs [] (fun d a r e => step d a r (by simpa using e)) env M h0
  rw [e]
  exact h env' M' (by simpa using q)
/-- a loop over a range: the number of turns told -/
theorem e_rng {β : Type} {kx : Exc → Mem → Out β} {res : Out β} {k : Fl → Mem → Out β} {body : SS} {tg : Tg} {env : Env} {M : Mem} {lo : Int} {n : Nat} (I : Nat → Env → Mem → Prop) (h0 : I 0 env M)
    (step : ∀ i, i < n → ∀ env M, I i env M → ∃ e env' M', tg.bind (.int (lo + (i : Nat))) env = some e ∧ body e M = .ok (.next env') M' ∧ I (i + 1) env' M') (h : ∀ env' M', I n env' M' → k (.next env') M' = res) : el (forL body tg [] (rngL lo n) env M) k kx = res := by
  refine e_pre (φ := fun k : Nat => D.int (lo + (k : Nat))) (List.range n) (fun d env M => I d.length env M) h0 (fun d a r e env M hI => ?_) (fun env' M' hI => h env' M' (by rw [List.length_range] at hI; exact hI))
  have hd : a = d.length := by
    have := congrArg (fun l => l[d.length]?) e
    simp only [List.getElem?_append_right (Nat.le_refl _), Nat.sub_self, List.getElem?_cons_zero] at this
    rw [List.getElem?_eq_some_iff] at this
    obtain ⟨h1, h2⟩ := this
    rw [List.getElem_range] at h2
    exact h2.symm
  have hn : d.length < n := by
    have := congrArg List.length e
    rw [List.length_range, List.length_append, List.length_cons] at this
    omega
  subst hd
  rw [List.length_append, List.length_singleton]
  exact step _ hn env M hI
end
/-! ### zip of two rows of ints -/
theorem zipL_int2 : ∀ xs ys : List Int, zipL (xs.map .int) (ys.map .int) = (List.zip xs ys).map fun p => D.tup [.int p.1, .int p.2]
  | [], ys => by cases ys <;> rfl
  | _ :: _, [] => rfl
  | x :: xs, y :: ys => by
    show D.tup [.int x, .int y] :: zipL (xs.map .int) (ys.map .int) = _
    rw [zipL_int2 xs ys]
    rfl
theorem asc_zip : ∀ c : List Int, ((List.zip c c.tail).all fun p => decide (p.1 < p.2)) = true ↔ c.Pairwise (· < ·)
  | [] => by simp
  | [x] => by simp
  | x :: y :: r => by
    have ih := asc_zip (y :: r)
    rw [List.tail_cons] at ih
    rw [List.tail_cons, List.zip_cons_cons, List.all_cons, Bool.and_eq_true, ih, decide_eq_true_eq, List.pairwise_cons (a := x), List.pairwise_cons]
    constructor
    · rintro ⟨h1, h2, h3⟩
      refine ⟨fun z hz => ?_, h2, h3⟩
      rcases List.mem_cons.mp hz with rfl | hz
      · exact h1
      · have := h2 z hz
        have h1 : x < y := h1
        omega
    · rintro ⟨h1, h2, h3⟩
      exact ⟨h1 y List.mem_cons_self, h2, h3⟩
end Mp

namespace Mp
open PySem L2 PySem.Spec PyProof.Rows

/-! ## walks over range(n) -/
theorem rng0 (n : Nat) : rngL 0 n = (List.range n).map fun k : Nat => D.int (k : Int) := by
  unfold rngL
  refine List.map_congr_left fun k _ => ?_
  rw [Int.zero_add]
section
variable {β : Type} {kx : Exc → Mem → Out β} {res : Out β}
theorem e_compRF {k : AV → Mem → Out β} {f : SE} {c : SB} {tg : Tg} {vs : List Nat} {env : Env} {M : Mem} {n : Nat} (g : Nat → D) (p : Nat → Bool) (hl : n ≤ 1000000)
    (h : ∀ j : Nat, j < n → ∃ e, tg.bind (.int (j : Nat)) (wipeE env vs) = some e ∧ c e M = .ok (p j) M ∧ (p j = true → ∃ av, f e M = .ok av M ∧ keepD av M = some (g j, M))) (q : k (.fr (((List.range n).filter p).map g)) M = res) : el (compL f c tg vs [] env (rngL 0 n) [] M) k kx = res := by
  rw [rng0]
  exact e_compM (φ := fun k : Nat => D.int (k : Int)) (List.range n) g p (fun j hj => h j (List.mem_range.mp hj)) (by rw [List.length_range]; exact hl) q
theorem e_compR {k : AV → Mem → Out β} {f : SE} {tg : Tg} {vs : List Nat} {env : Env} {M : Mem} {n : Nat} (g : Nat → D) (hl : n ≤ 1000000)
    (h : ∀ j : Nat, j < n → ∃ e, tg.bind (.int (j : Nat)) (wipeE env vs) = some e ∧ ∃ av, f e M = .ok av M ∧ keepD av M = some (g j, M)) (q : k (.fr ((List.range n).map g)) M = res) : el (compL f sYes tg vs [] env (rngL 0 n) [] M) k kx = res := by
  rw [rng0]
  exact e_compA (φ := fun k : Nat => D.int (k : Int)) (List.range n) g (fun j hj => h j (List.mem_range.mp hj)) (by rw [List.length_range]; exact hl) q
theorem e_compR2F {k : AV → Mem → Out β} {f : SE} {c : SB} {tg : Tg} {vs : List Nat} {env : Env} {M : Mem} {lo : Int} {n : Nat} (g : Nat → D) (p : Nat → Bool) (hl : n ≤ 1000000)
    (h : ∀ j : Nat, j < n → ∃ e, tg.bind (.int (lo + (j : Nat))) (wipeE env vs) = some e ∧ c e M = .ok (p j) M ∧ (p j = true → ∃ av, f e M = .ok av M ∧ keepD av M = some (g j, M))) (q : k (.fr (((List.range n).filter p).map g)) M = res) : el (compL f c tg vs [] env (rngL lo n) [] M) k kx = res :=
  e_compM (φ := fun k : Nat => D.int (lo + (k : Nat))) (List.range n) g p (fun j hj => h j (List.mem_range.mp hj)) (by rw [List.length_range]; exact hl) q
end
theorem rng_at {n a : Nat} {d r : List Nat} (e : List.range n = d ++ a :: r) : a = d.length ∧ d.length < n := by
  have h1 := congrArg (fun l => l[d.length]?) e
  simp only [List.getElem?_append_right (Nat.le_refl _), Nat.sub_self, List.getElem?_cons_zero] at h1
  rw [List.getElem?_eq_some_iff] at h1
  obtain ⟨h1, h2⟩ := h1
  rw [List.getElem_range] at h2
  rw [List.length_range] at h1
  exact ⟨h2.symm, h1⟩
/-- a loop over range(n), a state folded -/
theorem for_rngF {S : Type} {body : SS} {tg : Tg} {n : Nat} (I : S → Env → Mem → Prop) (f : S → Nat → S) (s0 : S) (step : ∀ i s, i < n → s = (List.range i).foldl f s0 → ∀ env M, I s env M → ∃ e env' M', tg.bind (.int (i : Nat)) env = some e ∧ body e M = .ok (.next env') M' ∧ I (f s i) env' M') {env : Env} {M : Mem} (h : I s0 env M) :
    ∃ env' M', forL body tg [] (rngL 0 n) env M = .ok (.next env') M' ∧ I ((List.range n).foldl f s0) env' M' := by
  rw [rng0]
  obtain ⟨env', M', e, h2⟩ := for_pre (φ := fun k : Nat => D.int (k : Int)) (body := body) (tg := tg) (I := fun d env M => d = List.range d.length ∧ I (d.foldl f s0) env M) (List.range n) [] (fun d a r e env M hI => by
    obtain ⟨ha, hn⟩ := rng_at (show List.range n = d ++ a :: r by rw [← e]; rfl)
    obtain ⟨hd, hI⟩ := hI
    subst ha
    obtain ⟨e1, env', M', e2, e3, h3⟩ := step d.length (d.foldl f s0) hn (by rw [← hd]) env M hI
    refine ⟨e1, env', M', e2, e3, ?_, by rw [List.foldl_append]; exact h3⟩
    rw [List.length_append, List.length_singleton, List.range_succ, ← hd]) env M ⟨rfl, h⟩
  exact ⟨env', M', e, h2.2⟩
/-- a loop over mapped items, a state folded -/
theorem for_mapF {S α : Type} {φ : α → D} {body : SS} {tg : Tg} (I : S → Env → Mem → Prop) (f : S → α → S) (s0 : S) (xs : List α) (step : ∀ d a r, xs = d ++ a :: r → ∀ env M, I (d.foldl f s0) env M → ∃ e env' M', tg.bind (φ a) env = some e ∧ body e M = .ok (.next env') M' ∧ I (f (d.foldl f s0) a) env' M') {env : Env} {M : Mem} (h : I s0 env M) :
    ∃ env' M', forL body tg [] (xs.map φ) env M = .ok (.next env') M' ∧ I (xs.foldl f s0) env' M' := by
  obtain ⟨env', M', e, h2⟩ := for_pre (φ := φ) (body := body) (tg := tg) (I := fun d env M => I (d.foldl f s0) env M) xs [] (fun d a r e env M hI => by
    obtain ⟨e1, env', M', e2, e3, h3⟩ := step d a r (by rw [← e]; rfl) env M hI
    exact ⟨e1, env', M', e2, e3, by rw [List.foldl_append]; exact h3⟩) env M h
  exact ⟨env', M', e, by simpa using h2⟩
theorem any_congr {α : Type} {l : List α} {p q : α → Bool} (h : ∀ x ∈ l, p x = q x) : l.any p = l.any q := by
  induction l with
  | nil => rfl
  | cons x r ih => rw [List.any_cons, List.any_cons, h x List.mem_cons_self, ih fun y hy => h y (.tail _ hy)]
theorem all_congr {α : Type} {l : List α} {p q : α → Bool} (h : ∀ x ∈ l, p x = q x) : l.all p = l.all q := by
  induction l with
  | nil => rfl
  | cons x r ih => rw [List.all_cons, List.all_cons, h x List.mem_cons_self, ih fun y hy => h y (.tail _ hy)]
section
variable {β : Type} {kx : Exc → Mem → Out β} {res : Out β} {k : AV → Mem → Out β} {M M2 : Mem}
theorem p_cmpE {op : CmpOp} {x y v : AV} (e : cmpop op x y M = .ok v M2) (h : k v M2 = res) : el (cmpop op x y M) k kx = res := by rw [e]; exact h
theorem e_sortset {f : SE} {env : Env} (h : el (f env M) (fun x M1 => el (sortSetOp x M1) k kx) kx = res) : el (sSortSet f env M) k kx = res := by rw [← h]; exact el_bind _ _ _ _
theorem e_rgT {f g : SE} {env : Env} (h : el (f env M) (fun x M1 => el (g env M1) (fun y M2 => el (rgTOp x y M2) k kx) kx) kx = res) : el (sRgT f g env M) k kx = res := by
  rw [← h]
  unfold sRgT sTwo
  rw [el_bind]
  congr
  funext x M1
  rw [el_bind]
end
end Mp

namespace SrtO
open PySem PyProof PyProof.Rows
variable {prog : Program} {w : World} {A : Around} {E : Value → Shared → Prop} {s : Shared}
theorem collect_tuple {l : Addr} {vs : List Value} {Q : List Value → Shared → Prop} (hl : s.heap.IsTuple l vs.toArray)
    (h : Q vs { s with heap := (s.heap.push (seqObj "list" #[] 0)).update s.heap.objs.size (Obj.mapSeq (· ++ vs.toArray)) }) (hsz : vs.length ≤ sizeLine) :
    wpAny (model prog w) A (collect (.ref l)) Q E s := by
  obtain ⟨o, ho, hc, n, hd⟩ := id hl
  unfold collect
  refine wpAny_bind (wpAny_runValue (codeAny_builtin entry_proto_collect' ?_))
  show wpAny _ _ (do again (.builtin "list.__iadd__" ⟨[← newList [], .ref l], []⟩)) _ _ s
  refine wpAny_bind (wpAny_newList (wpAny_pure ⟨Code.quiet_builtin _ (by decide +kernel), codeAny_builtin entry_list_iadd' ?_⟩))
  show wpAny _ _ (Builtin.List.listExtendWith (.ref s.heap.objs.size) (.ref l) (.ref s.heap.objs.size)) _ _ { s with heap := s.heap.push (seqObj "list" #[] 0) }
  unfold Builtin.List.listExtendWith
  have ho' : (s.heap.push (seqObj "list" #[] 0)).get? l = some o := Heap.get?_push_of_some _ ho
  refine wpAny_bind (wpAny_typeOf (T := "tuple") ⟨o, ho', hc⟩ ?_)
  have ht : (Value.type "tuple" == Value.type "tuple") = true := by rfl
  rw [if_pos (by rw [ht]; simp)]
  refine wpAny_bind (listItems_at ho' hd ?_)
  refine wpAny_bind (listItems_at (xs := #[]) (n := 0) (Heap.get?_push_size _ rfl) rfl ?_)
  rw [if_neg (by simp)]
  refine wpAny_bind (listUpdate_at (xs := #[]) (n := 0) (Heap.get?_push_size _ rfl) rfl ?_ (Nat.zero_le _) (by show (#[] ++ vs.toArray).size ≤ sizeLine + 1; simp only [Array.size_append, List.size_toArray, List.length_nil]; omega))
  refine wpAny_pure ?_
  show wpAny (model prog w) A (do
      let o ← load s.heap.objs.size
      match o.data with
      | .seq xs _ => pure xs.toList
      | _ => unsupported "internal:collect") Q E { s with heap := (s.heap.push (seqObj "list" #[] 0)).update s.heap.objs.size (Obj.mapSeq (· ++ vs.toArray)) }
  refine wpAny_bind (wpAny_load (get?_update_seq (Heap.get?_push_size _ rfl) _) ?_)
  show wpAny _ _ (pure ((#[] : Array Value) ++ vs.toArray).toList) Q E _
  rw [show ((#[] : Array Value) ++ vs.toArray).toList = vs by simp]
  exact wpAny_pure h
theorem sorted_ordT {l : Addr} {vs : List Value} {ltv : Value → Value → Bool} {Q : Value → Shared → Prop} (O : Swo ltv) (hl : s.heap.IsTuple l vs.toArray) (hz : vs.length ≤ sizeLine)
    (hS : 2 ≤ vs.length → ∀ (h₁ : Heap) (a : Addr), h₁.get? a = some (seqObj "list" vs.toArray 0) → (∀ b o, s.heap.get? b = some o → b ≠ a ∧ h₁.get? b = some o) → SortableO prog w A.in1.in1 { s with heap := h₁ } a vs ltv)
    (h : ∀ out : List Value, Srtd ltv out → Stb ltv out vs → Q (.ref (s.heap.objs.size + 1)) { s with heap := sortedAll s.heap vs out.toArray }) :
    wpAny (model prog w) A (call (.builtin "sorted") [.ref l]) Q E s := by
  refine Calls.call_function_entry kind_sorted plain_sorted entry_sorted (args_sorted1 _) ?_
  unfold Builtin.«sorted»
  refine wpAny_bind (m := checkCount "sorted" 1 1 _) (wpAny_pure ?_)
  refine wpAny_bind (collect_tuple hl ?_ hz)
  refine wpAny_bind (wpAny_newList ?_ hz)
  have hsz : ((s.heap.push (seqObj "list" #[] 0)).update s.heap.objs.size (Obj.mapSeq (· ++ vs.toArray))).objs.size = s.heap.objs.size + 1 := by
    rw [Heap.size_update, size_push']
  have hoL : (((s.heap.push (seqObj "list" #[] 0)).update s.heap.objs.size (Obj.mapSeq (· ++ vs.toArray))).push (seqObj "list" vs.toArray 0)).get? (s.heap.objs.size + 1) = some (seqObj "list" vs.toArray 0) := by
    rw [← hsz]; exact Heap.get?_push_size _ rfl
  have keep : ∀ b o, s.heap.get? b = some o → b ≠ s.heap.objs.size + 1 ∧ (((s.heap.push (seqObj "list" #[] 0)).update s.heap.objs.size (Obj.mapSeq (· ++ vs.toArray))).push (seqObj "list" vs.toArray 0)).get? b = some o := fun b o q => by
    have hlt : b < s.heap.objs.size := Heap.lt_size q
    refine ⟨Nat.ne_of_lt (Nat.lt_succ_of_lt hlt), Heap.get?_push_of_some _ ?_⟩
    rw [Heap.get?_update_ne _ _ _ _ (Nat.ne_of_lt hlt)]
    exact Heap.get?_push_of_some _ q
  show wpAny _ _ _ _ _ { s with heap := ((s.heap.push (seqObj "list" #[] 0)).update s.heap.objs.size (Obj.mapSeq (· ++ vs.toArray))).push (seqObj "list" vs.toArray 0) }
  rw [hsz]
  refine wpAny_bind (wpAny_holding (wpAny_call_entry slot_list_sort ⟨_, hoL, rfl⟩ entry_list_sort (list_sort_ord O hoL hz (fun h2 => hS h2 _ _ hoL keep) fun out hs hb => ⟨_, rfl, ?_⟩) (args_list_sort _)))
  exact wpAny_pure ⟨_, rfl, h out hs hb⟩
end SrtO
namespace L2
open PySem PySem.Spec PyProof.Rows
/-- sorted(a tuple), ints -/
def rSortedTI (K : PySem.W.Frag) : List V → Hp → VK → Prop := fun vs H Q => ∃ (a : Addr) (ns : List Int), vs = [V.ref a] ∧ SqT K H a (ns.map V.int) ∧
  ∀ (ns' : List Int) (p : Addr), ns'.Perm ns → ns'.Pairwise (· ≤ ·) → H p = none → Q (.ref p) (upd H p (.lst (ns'.map V.int)))
section
variable {X : Cx}
theorem cr_sortedTI : CallR X (.builtin "sorted") (rSortedTI X.K) := by
  intro pins s σ H vs us Q I r h
  obtain ⟨a, ns, rfl, hs, q⟩ := h
  obtain ⟨its, rv, hl, hz⟩ := I.tuple hs
  rw [Vals.ref1 r]
  have hi := rv.ints
  refine SrtO.sorted_ordT SrtO.swo_int hl (by rw [← rv.length]; exact hz) (fun h2 h₁ a' _ _ => SrtO.ints_sortable hi h2) fun out h1 h2 => ?_
  obtain ⟨k1, k2, k3⟩ := SrtO.ints_out hi h1 h2
  obtain ⟨ep, he'⟩ := PyProof.Rows.sortedAll_at s.heap its out.toArray
  have hlen : ((out.map SrtO.iv).map V.int).length ≤ sizeLine := by
    rw [List.length_map, k2.length_eq]
    rw [List.length_map] at hz
    exact hz
  exact ⟨.ref _, upd H (s.heap.objs.size + 1) (.lst ((out.map SrtO.iv).map V.int)), I.laid (t' := s.toks) (fun _ _ => PyProof.Rows.sortedAll_old) (Nat.le_succ _) ⟨hlen, out, ep, vals_of_ints k1, he'⟩, rfl, q _ _ k2 k3 (I.hok.fresh (Nat.le_succ _))⟩
end
end L2
namespace Mp
open PySem L2 PySem.Spec PyProof.Rows
/-! ## sorted(xs): lists as before, and tuples of ints -/
def sorted3Op : List AV → Mem → Out AV
  | [a], M => match (tupOf a).bind ints? with
    | some ns => .ok (.fr ((sortI ns).map D.int)) M
    | none => sorted2Op [a] M
  | avs, M => sorted2Op avs M
section
variable {G : Gm} {W Z B : Addr → Prop} {φ : List Addr} {H : Hp} {M : Mem} {Q : VK} {E : XK} {avs : List AV} {vs : List V}
theorem sorted3_run (R : Rel G W Z φ M H) (r : SRs G (Bar W Z) φ H avs vs) (h : Run G Z φ W H (sorted3Op avs M) Q E) : rSortedTI G.K vs H Q ∨ (rSortedI G.K vs H Q ∨ rSortedDt G.K vs H Q) := by
  unfold sorted3Op at h
  split at h
  · split at h
    · rename_i ns e
      left
      obtain ⟨v, rfl, r1⟩ := r.one
      obtain ⟨p, rfl, h1⟩ := Rel.tupInts r1 e
      refine ⟨p, ns, rfl, h1, fun ms l hp hs hl => ?_⟩
      have e : ms = sortI ns := sorted_unique (hp.trans (sortI_perm ns).symm) hs (sortI_sorted ns)
      subst e
      exact Run.new R h (RDs.of_ints _) l hl
    · exact .inr (sorted2_run R r h)
  · exact .inr (sorted2_run R r h)
end
section
variable {X : Cx} {E : WX} {e : Expr} {es : List Expr} {l : SL} {pos p : Pos}
theorem gc_sorted3 (hu : X.A.units + 65 < cLine) (hc : X.calm = true) (hl : GL X E (e :: es) l) (he : starEach (e :: es) X.env = (false, eval e X.env) :: starEach es X.env) (hpl : (backTo pos (starEach es X.env)).any (·.1) = false) (hg : Gl X "sorted") (hm : X.mg "sorted" = none) : GE X E (.Call (.Name "sorted" p) (e :: es) [] pos) (sArgs sorted3Op l) :=
  ge_bi (fun h => pe_callB (cr_sortedTI.or (cr_sortedI.or (cr_sortedDt (by omega)))) hg hm boot_sorted h (he := he) (hpl := hpl)) hl fun W Z φ M H avs vs Q E R r h => sorted3_run R r h
end
theorem sorted_ti (c : List Int) (M : Mem) : sorted3Op [.d (ti c)] M = .ok (.fr ((sortI c).map .int)) M := by
  show (match (some (c.map D.int)).bind ints? with
    | some ns => Out.ok (AV.fr ((sortI ns).map D.int)) M
    | none => sorted2Op [.d (ti c)] M) = _
  rw [Option.bind_some, ints_map]
end Mp

set_option maxHeartbeats 4000000
namespace L2
open PySem PySem.Spec PyProof.Rows
section
variable {P : Program} {w : World} {A : Around} {E : Value → Shared → Prop} {s : Shared} {a : Addr}
theorem sorted_setB {S : Int → Bool} {n : Nat} {Q : Value → Shared → Prop} (R : SetR w s.heap a S n) (hh : A.handled = none)
    (hQ : ∀ s' p (out : Array Value) (c : Nat) (ns : List Int), (∀ b o, s.heap.get? b = some o → s'.heap.get? b = some o) → s'.gens = s.gens → s'.os = s.os → s.heap.objs.size ≤ p →
      s'.heap.get? p = some (seqObj "list" out c) → IntsAre out.toList ns → ns.Pairwise (· < ·) → (∀ k, k ∈ ns ↔ S k = true) → ns.length = n → Q (.ref p) s') :
    wpAny (model P w) A (call (.builtin "sorted") [.ref a]) Q E s := by
  obtain ⟨o, es, ep, t, ho, hex, hd, g, nd, hm, hb, hf, hn, hr, hl⟩ := R
  refine Calls.call_function_entry kind_sorted plain_sorted entry_sorted (args_sorted1 _) ?_
  unfold Builtin.«sorted»
  refine wpAny_bind (m := checkCount "sorted" 1 1 _) (wpAny_pure ?_)
  refine wpAny_bind (collect_set (A := A.in1) hh ⟨o, ho, hex.1, hd⟩ hf hb hr hl fun s1 vs k1 hz g1 o1 pm => ?_)
  have hvl : vs.length = es.size := by rw [pm.length_eq, List.length_map, Array.length_toList]
  have hsz : vs.length ≤ sizeLine := by rw [hvl]; exact fits_of_scanBound hb
  have hI : IntsAre vs (vs.map Builtin.Re.reRawOf) := ints_of vs fun v hv => by
    obtain ⟨e, he, q⟩ := List.mem_map.mp (pm.mem_iff.mp hv)
    obtain ⟨k, tk, h1, _⟩ := g e he
    exact ⟨k, tk, by rw [← q]; exact h1⟩
  have pk : (vs.map Builtin.Re.reRawOf).Perm (es.toList.map keyOf) := by
    have q := pm.map Builtin.Re.reRawOf
    rw [List.map_map] at q
    exact q
  refine wpAny_bind (wpAny_newList ?_ hsz)
  have hoL : (s1.heap.push (seqObj "list" vs.toArray 0)).get? s1.heap.objs.size = some (seqObj "list" vs.toArray 0) := Heap.get?_push_size _ rfl
  refine wpAny_bind (wpAny_holding (wpAny_call_entry slot_list_sort ⟨_, hoL, rfl⟩ entry_list_sort (SrtO.list_sort_ord SrtO.swo_int hoL hsz (fun h2 => SrtO.ints_sortable hI h2) fun out h1 h2 => ⟨_, rfl, ?_⟩) (args_list_sort _)))
  obtain ⟨a1, a2, a3⟩ := SrtO.ints_out hI h1 h2
  obtain ⟨c, hc⟩ := sortedHeap_at (vs := vs) (out := out.toArray) hoL
  have pn : (out.map SrtO.iv).Perm (es.toList.map keyOf) := a2.trans pk
  refine wpAny_pure ⟨_, rfl, hQ _ s1.heap.objs.size out.toArray c (out.map SrtO.iv) (fun b u e => ?_) g1 o1 hz hc a1 (lt_of_le_nodup _ a3 (pn.nodup_iff.mpr nd)) (fun k => by rw [pn.mem_iff, ← hm k]) ?_⟩
  · have q := k1 b u e
    have hlt := Heap.lt_size q
    show (sortedHeap (s1.heap.push (seqObj "list" vs.toArray 0)) s1.heap.objs.size vs out.toArray).get? b = some u
    rw [sortedHeap_old (Nat.ne_of_lt hlt) (by rw [size_push']; exact Nat.lt_succ_of_lt hlt)]
    exact Heap.get?_push_of_some _ q
  · rw [pn.length_eq, List.length_map, Array.length_toList]; exact hn
end
def rSortedSetB (w : World) : List V → Hp → VK → Prop := fun vs H Q => ∃ (a : Addr) (S : Int → Bool) (n : Nat), vs = [V.ref a] ∧ H a = some (SetO w a S n) ∧ n ≤ 4000 ∧
  ∀ (ns : List Int) (p : Addr), ns.Pairwise (· < ·) → (∀ k : Int, k ∈ ns ↔ S k = true) → ns.length = n → H p = none → Q (.ref p) (upd H p (.lst (ns.map V.int)))
section
variable {X : Cx}
theorem cr_sortedSetB (hc : X.calm = true) : CallR X (.builtin "sorted") (rSortedSetB X.w) := by
  intro pins s σ H vs us Q I r h
  obtain ⟨a, S, n, rfl, ha, h64, q⟩ := h
  have R := setO_get I ha
  rw [Vals.ref1 r]
  refine sorted_setB R (I.ok.hd hc) fun s' p out c ns k g o hp hg hi hs hm hl => ?_
  have hlen : (ns.map V.int).length ≤ sizeLine := by rw [List.length_map, hl, sizeLine_eq]; omega
  have hn : H p = none := I.hok.fresh hp
  have J : Inv X pins σ (upd H p (.lst (ns.map V.int))) { s with heap := s'.heap, gens := s'.gens, drawn := s'.drawn, toks := s'.toks } :=
    I.call (ch := []) (Un.laid k hp hn) (I.hok.laid k hp ⟨hlen, out.toList, c, vals_of_ints hi, hg⟩) (by rw [g]; exact I.bare) (fun _ z => nomatch z)
  have e : s' = { s with heap := s'.heap, gens := s'.gens, drawn := s'.drawn, toks := s'.toks } := by
    cases s'
    cases s
    cases o
    rfl
  rw [e]
  exact ⟨.ref p, _, J, rfl, q ns p hs hm hl hn⟩
end
end L2
namespace Mp
open PySem L2 PySem.Spec PyProof.Rows
/-! ## sorted(set(..)) of up to 4000 ints -/
/-- set(t), of a list or a tuple of ints -/
def rSetI2 (K : PySem.W.Frag) (w : World) : List V → Hp → VK → Prop := fun vs H Q => ∃ (p : Addr) (ns : List Int), vs = [V.ref p] ∧ (SqT K H p (ns.map V.int) ∨ SqL K H p (ns.map V.int)) ∧ ns.length ≤ 4000 ∧
  ∀ (a : Addr) (S : Int → Bool) (n : Nat), H a = none → (∀ k, S k = true ↔ k ∈ ns) → n ≤ ns.length → Q (.ref a) (upd H a (SetO w a S n))
section
variable {X : Cx}
theorem cr_setI2 (hc : X.calm = true) : CallR X (.type "set") (rSetI2 X.K X.w) := by
  intro pins s σ H vs us Q I r h
  obtain ⟨p, ns, rfl, hq, hl, q⟩ := h
  have hd := I.ok.hd hc
  have hb : ns.length + 1 < scanBound := by unfold scanBound; omega
  rw [Vals.ref1 r]
  rcases hq with hq | hq
  · obtain ⟨its, rv, pt, _⟩ := I.tuple hq
    exact call_set_tupI ns hd (show s.heap.IsTuple p its.toArray from pt) (ints_of_vals rv) hb fun h2 t2 c R hn kp => set_laid I q R hn kp
  · obtain ⟨its, rv, pl, _⟩ := I.list hq
    refine set_from_list ns hd pl.isList (ints_of_vals rv) hb fun s2 left => ?_
    obtain ⟨h2, t2, c, rfl, R, hn, kp⟩ := left
    exact set_laid I q R hn kp
end
def sortSet2Op (a : AV) (M : Mem) : Out AV := match (tupOf a).bind ints?, (lstOf M a).bind ints? with
  | some ns, _ => if ns.length ≤ 4000 then .ok (.fr ((sortU ns).map D.int)) M else .bad
  | none, some ns => if ns.length ≤ 4000 then .ok (.fr ((sortU ns).map D.int)) M else .bad
  | none, none => .bad
def sSortSet2 (f : SE) : SE := sOne sortSet2Op f
section
variable {G : Gm} {W Z : Addr → Prop} {φ : List Addr} {H : Hp} {M : Mem} {Q : VK} {E : XK} {v : V} {w : World}
theorem sortSet2_run {a : AV} (R : Rel G W Z φ M H) (r : SR G (Bar W Z) φ H a v) (h : Run G Z φ W H (sortSet2Op a M) Q E) : rSetI2 G.K w [v] H fun y H2 => rSortedSetB w [y] H2 Q := by
  have main : ∀ ns : List Int, (∃ p, v = .ref p ∧ (SqT G.K H p (ns.map V.int) ∨ SqL G.K H p (ns.map V.int))) → Run G Z φ W H (if ns.length ≤ 4000 then .ok (.fr ((sortU ns).map D.int)) M else .bad) Q E → rSetI2 G.K w [v] H fun y H2 => rSortedSetB w [y] H2 Q := fun ns ⟨p, e, hq⟩ h => by
    subst e
    split at h
    · rename_i h64
      refine ⟨p, ns, rfl, hq, by omega, fun a S n ha hS hn => ⟨a, S, n, rfl, upd_same, by omega, fun ms q hs hm _ hq => ?_⟩⟩
      have e : ms = sortU ns := sorted_lt_ext _ _ hs (sortU_lt ns) fun k => by rw [hm k, hS k, sortU_mem]
      subst e
      exact Run.new (R.laid0 ha) (Run.later (Ext.laid R ha) h) (RDs.of_ints _) q hq
    · exact h.elim
  unfold sortSet2Op at h
  split at h
  · rename_i ns e
    obtain ⟨p, rfl, h1⟩ := Rel.tupInts r e
    exact main ns ⟨p, rfl, .inl h1⟩ h
  · rename_i _ ns _ e
    obtain ⟨p, rfl, h1⟩ := R.ints r e
    exact main ns ⟨p, rfl, .inr h1⟩ h
  · exact h.elim
end
section
variable {X : Cx} {E : WX} {e : Expr} {f : SE} {pos p p2 q : Pos}
theorem ge_sortset2 (hc : X.calm = true) (he : GE X E e f) (hg : Gl X "sorted") (hm : X.mg "sorted" = none) (hg2 : Gl X "set") (hm2 : X.mg "set" = none) (hs : starEach [e] X.env = [(false, eval e X.env)])
    (hs2 : starEach [.Call (.Name "set" p2) [e] [] q] X.env = [(false, eval (.Call (.Name "set" p2) [e] [] q) X.env)]) : GE X E (.Call (.Name "sorted" p) [.Call (.Name "set" p2) [e] [] q] [] pos) (sSortSet2 f) :=
  PE.imp (pe_callB (cr_sortedSetB hc) hg hm boot_sorted (pa_cons (pe_callTy (cr_setI2 hc) hg2 hm2 PyProof.Rows.boot_set (pa_cons he pa_nil (hs := hs)) (he := hs)) pa_nil (hs := hs2)) (he := hs2)) fun σ H Q ⟨W, Z, φ, env, M, R, Er, h⟩ =>
    ⟨W, Z, φ, env, M, R, Er, (Run.bind h).imp fun v H1 ⟨W1, M1, x, _, R1, x1, r1, h2⟩ => sortSet2_run R1 r1.sr h2⟩
end
end Mp

set_option maxHeartbeats 4000000
namespace Mp
open PySem L2 PySem.Spec PyProof.Rows
section
variable {β : Type} {kx : Exc → Mem → Out β} {res : Out β} {k : AV → Mem → Out β}
theorem e_sortset2 {f : SE} {env : Env} {M : Mem} (h : el (f env M) (fun x M1 => el (sortSet2Op x M1) k kx) kx = res) : el (sSortSet2 f env M) k kx = res := by
  rw [← h]
  exact el_bind _ _ _ _
end
end Mp

namespace Mp
open PySem L2 PySem.Spec PyProof.Rows
def top (i : Nat) : Stmt := PySem.Challenge.pw_germroads_k45_whole_lots_and_their_gaps.main.body.getD i (.Pass ⟨0, 0, 0, 0⟩)
structure Bn (mg : Str → Option Value) : Prop where
  abs : mg "abs" = none
  all : mg "all" = none
  any : mg "any" = none
  bool : mg "bool" = none
  enumerate : mg "enumerate" = none
  int : mg "int" = none
  isinstance : mg "isinstance" = none
  len : mg "len" = none
  list : mg "list" = none
  max : mg "max" = none
  min : mg "min" = none
  range : mg "range" = none
  set : mg "set" = none
  sorted : mg "sorted" = none
  str : mg "str" = none
  sum : mg "sum" = none
  tuple : mg "tuple" = none
  zip : mg "zip" = none
structure Cs (G : Gm) : Prop where
  kMOST_CONDUCTOR : Cst G "MOST_CONDUCTOR" (.int 3000)
  kMOST_GENERATOR : Cst G "MOST_GENERATOR" (.int 1000)
  kMOST_GENERATORS : Cst G "MOST_GENERATORS" (.int 12)
  kMOST_GIVEN : Cst G "MOST_GIVEN" (.int 60)
/-! ### is_integer -/
abbrev stis_integer : Stmt := top 5
def Tis_integer : SS :=
 (sSeq2 (sRet (sAnd (sIsi ["int"] (sVar 0)) (sNot (sIsi ["bool"] (sVar 0)))))
 sSkip)
def Fis_integer : List AV → Mem → Out AV := fnRun 1 1 Tis_integer
theorem scis_integer : FnScope ["value"] ["value"] (defScope stis_integer) := C8.fnScope_by rfl
theorem okis_integer {P : Program} {w : World} {K : PySem.W.Frag} {mg : Str → Option Value} {base : Heap} {f : Addr} {fd : FuncData} (F : Fun K "is_integer" "is_integer" stis_integer f fd) (B : Bn mg) : FnOk P w K mg base (L2.CX P w) 1 f fd ["value"] (spOf ⟨K, mg⟩ Fis_integer) := by
  refine fn_ok (N := ["value"]) F scis_integer (fun cdv A outer s H E hr => ?_)
  have hnd : (["value"] : List Str).Nodup := scis_integer.nd
  have hu : (A.deeper (envOfC "is_integer" (defScope stis_integer) s.heap.objs.size f cdv)).units + 65 < cLine := by have := hr.un; omega
  have tk : Takes (cxf P w K mg base ["value"] "is_integer" stis_integer f cdv A outer s H E) (fun cls d _ H' => E cls d H') := takes_of rfl rfl rfl rfl
  have po : PassesOwn (model P w) (cxf P w K mg base ["value"] "is_integer" stis_integer f cdv A outer s H E).A (cxf P w K mg base ["value"] "is_integer" stis_integer f cdv A outer s H E).env (cxf P w K mg base ["value"] "is_integer" stis_integer f cdv A outer s H E).xe := passes_of rfl
  exact (gs_cons (gs_ret (ge_and (ge_isi1 (u := "int") (by rfl) B.isinstance (by decide) (pe_bltn (by rfl) B.int boot_int (by rfl)) (gv 0) (by rfl) (by rfl) (by rfl)) (ge_one1 (ge_not (ge_isi1 (u := "bool") (by rfl) B.isinstance (by decide) (pe_bltn (by rfl) B.bool boot_bool (by rfl)) (gv 0) (by rfl) (by rfl) (by rfl))))))
 gs_nil)
/-! ### greatest_common -/
abbrev stgreatest_common : Stmt := top 6
def Tgreatest_common : SS :=
 (sSeq2 (sPar2 0 1 false false (sArgs absOp (sCons (sVar 0) sNil)) (sArgs absOp (sCons (sVar 1) sNil)))
 (sSeq2 (sWhile (sB (sCmp .NotEq (sVar 1) (sCon (.int 0))))
 (sSeq2 (sPar2 0 1 false false (sVar 1) (sBin .Mod (sVar 0) (sVar 1)))
 sSkip))
 (sSeq2 (sRet (sVar 0))
 sSkip)))
def Fgreatest_common : List AV → Mem → Out AV := fnRun 2 2 Tgreatest_common
theorem scgreatest_common : FnScope ["a", "b"] ["a", "b"] (defScope stgreatest_common) := C8.fnScope_by rfl
theorem okgreatest_common {P : Program} {w : World} {K : PySem.W.Frag} {mg : Str → Option Value} {base : Heap} {f : Addr} {fd : FuncData} (F : Fun K "greatest_common" "greatest_common" stgreatest_common f fd) (B : Bn mg) : FnOk P w K mg base (L2.CX P w) 1 f fd ["a", "b"] (spOf ⟨K, mg⟩ Fgreatest_common) := by
  refine fn_ok (N := ["a", "b"]) F scgreatest_common (fun cdv A outer s H E hr => ?_)
  have hnd : (["a", "b"] : List Str).Nodup := scgreatest_common.nd
  have hu : (A.deeper (envOfC "greatest_common" (defScope stgreatest_common) s.heap.objs.size f cdv)).units + 65 < cLine := by have := hr.un; omega
  have tk : Takes (cxf P w K mg base ["a", "b"] "greatest_common" stgreatest_common f cdv A outer s H E) (fun cls d _ H' => E cls d H') := takes_of rfl rfl rfl rfl
  have po : PassesOwn (model P w) (cxf P w K mg base ["a", "b"] "greatest_common" stgreatest_common f cdv A outer s H E).A (cxf P w K mg base ["a", "b"] "greatest_common" stgreatest_common f cdv A outer s H E).env (cxf P w K mg base ["a", "b"] "greatest_common" stgreatest_common f cdv A outer s H E).xe := passes_of rfl
  exact (gs_cons (gs_par2 (i := 0) (j := 1) (m := false) (n := false) (by rfl) hnd (by rfl) (by rfl) (by decide) (by rfl) (by rfl) (gc_abs (by rfl) (gl_one (gv 0)) (by rfl) (by rfl) (by rfl) B.abs) (gc_abs (by rfl) (gl_one (gv 1)) (by rfl) (by rfl) (by rfl) B.abs) (by rfl) (by rfl) (by rfl) (by rfl))
 (gs_cons (gs_while po (gb_cmp hu (by rfl) (gv 1) gn_int)
 (gs_cons (gs_par2 (i := 0) (j := 1) (m := false) (n := false) (by rfl) hnd (by rfl) (by rfl) (by decide) (by rfl) (by rfl) (gv 1) (ge_bin (gv 0) (gv 1)) (by rfl) (by rfl) (by rfl) (by rfl))
 gs_nil))
 (gs_cons (gs_ret (gv 0))
 gs_nil)))
/-! ### common_of -/
abbrev stcommon_of : Stmt := top 12
def Tcommon_of : SS :=
 (sSeq2 (sAsg 1 false (sCon (.int 0)))
 (sSeq2 (sFor (sSeq (sVar 0)) (.name 2)
 (sSeq2 (sAsg 1 false (sArgs Fgreatest_common (sCons (sVar 1) (sCons (sVar 2) sNil))))
 sSkip))
 (sSeq2 (sRet (sVar 1))
 sSkip)))
def Fcommon_of : List AV → Mem → Out AV := fnRun 1 3 Tcommon_of
theorem sccommon_of : FnScope ["items", "found", "x"] ["items"] (defScope stcommon_of) := C8.fnScope_by rfl
theorem okcommon_of {P : Program} {w : World} {K : PySem.W.Frag} {mg : Str → Option Value} {base : Heap} {f : Addr} {fd : FuncData} (F : Fun K "common_of" "common_of" stcommon_of f fd) (cgreatest_common : CalD P w K mg base 1 "greatest_common" Fgreatest_common) : FnOk P w K mg base (L2.CX P w) 2 f fd ["items"] (spOf ⟨K, mg⟩ Fcommon_of) := by
  refine fn_ok (N := ["items", "found", "x"]) F sccommon_of (fun cdv A outer s H E hr => ?_)
  have hnd : (["items", "found", "x"] : List Str).Nodup := sccommon_of.nd
  have hu : (A.deeper (envOfC "common_of" (defScope stcommon_of) s.heap.objs.size f cdv)).units + 65 < cLine := by have := hr.un; omega
  have tk : Takes (cxf P w K mg base ["items", "found", "x"] "common_of" stcommon_of f cdv A outer s H E) (fun cls d _ H' => E cls d H') := takes_of rfl rfl rfl rfl
  have po : PassesOwn (model P w) (cxf P w K mg base ["items", "found", "x"] "common_of" stcommon_of f cdv A outer s H E).A (cxf P w K mg base ["items", "found", "x"] "common_of" stcommon_of f cdv A outer s H E).env (cxf P w K mg base ["items", "found", "x"] "common_of" stcommon_of f cdv A outer s H E).xe := passes_of rfl
  exact (gs_cons (gs_asg (i := 1) (m := false) hnd (by rfl) (by first | exact Or.inl rfl | exact Or.inr rfl) gn_int (by rfl) (.inl rfl))
 (gs_cons (gs_for (t := (.name 2)) po (by rfl) (gi_seq (gv 0)) (gg_name (i := 2) hnd (by rfl) (by first | exact Or.inl rfl | exact Or.inr rfl) (by first | exact Or.inl rfl | exact Or.inr rfl))
 (gs_cons (gs_asg (i := 1) (m := false) hnd (by rfl) (by first | exact Or.inl rfl | exact Or.inr rfl) (ge_call (by exact cgreatest_common.cald) (hr.mono (by decide)) tk (by rfl) (gl_more (gv 1) (gl_one (gv 2))) (by decide) (by rfl) (by rfl)) (by rfl) (.inl rfl))
 gs_nil) (fun _ => rfl))
 (gs_cons (gs_ret (gv 1))
 gs_nil)))
/-! ### least_of -/
abbrev stleast_of : Stmt := top 13
def Tleast_of : SS :=
 (sSeq2 (sAsg 1 true (sLst sNil))
 (sSeq2 (sAsg 2 true (sBin .Add (sLst (sCons (sCon (.bl true)) sNil)) (sBin .Mult (sLst (sCons (sCon (.bl false)) sNil)) (sArgs maxOp2 (sCons (sVar 0) sNil)))))
 (sSeq2 (sFor (sSeq (sSortSet (sVar 0))) (.name 3)
 (sSeq2 (sIfS (sNotB (sB (sIdx (sVar 2) (sVar 3))))
 (sSeq2 (sExpr (sMeth mAppend (sVar 1) (sCons (sVar 3) sNil)))
 (sSeq2 (sFor (sRng (sCons (sVar 3) (sCons (sArgs lenOp (sCons (sVar 2) sNil)) sNil))) (.name 4)
 (sSeq2 (sSetI (sVar 2) (sVar 4) (sOr (sIdx (sVar 2) (sVar 4)) (sIdx (sVar 2) (sBin .Sub (sVar 4) (sVar 3)))))
 sSkip))
 sSkip))
 sSkip)
 sSkip))
 (sSeq2 (sRet (sVar 1))
 sSkip))))
def Fleast_of : List AV → Mem → Out AV := fnRun 1 5 Tleast_of
theorem scleast_of : FnScope ["items", "found", "held", "x", "k"] ["items"] (defScope stleast_of) := C8.fnScope_by rfl
theorem okleast_of {P : Program} {w : World} {K : PySem.W.Frag} {mg : Str → Option Value} {base : Heap} {f : Addr} {fd : FuncData} (F : Fun K "least_of" "least_of" stleast_of f fd) (B : Bn mg) : FnOk P w K mg base (L2.CX P w) 1 f fd ["items"] (spOf ⟨K, mg⟩ Fleast_of) := by
  refine fn_ok (N := ["items", "found", "held", "x", "k"]) F scleast_of (fun cdv A outer s H E hr => ?_)
  have hnd : (["items", "found", "held", "x", "k"] : List Str).Nodup := scleast_of.nd
  have hu : (A.deeper (envOfC "least_of" (defScope stleast_of) s.heap.objs.size f cdv)).units + 65 < cLine := by have := hr.un; omega
  have tk : Takes (cxf P w K mg base ["items", "found", "held", "x", "k"] "least_of" stleast_of f cdv A outer s H E) (fun cls d _ H' => E cls d H') := takes_of rfl rfl rfl rfl
  have po : PassesOwn (model P w) (cxf P w K mg base ["items", "found", "held", "x", "k"] "least_of" stleast_of f cdv A outer s H E).A (cxf P w K mg base ["items", "found", "held", "x", "k"] "least_of" stleast_of f cdv A outer s H E).env (cxf P w K mg base ["items", "found", "held", "x", "k"] "least_of" stleast_of f cdv A outer s H E).xe := passes_of rfl
  exact (gs_cons (gs_asg (i := 1) (m := true) hnd (by rfl) (by first | exact Or.inl rfl | exact Or.inr rfl) (ge_lst gl_nil) (by rfl) (.inl rfl))
 (gs_cons (gs_asg (i := 2) (m := true) hnd (by rfl) (by first | exact Or.inl rfl | exact Or.inr rfl) (ge_bin (ge_lst (gl_one gn_bl)) (ge_bin (ge_lst (gl_one gn_bl)) (gc_max2 hu (by rfl) (gl_one (gv 0)) (by rfl) (by rfl) (by rfl) B.max))) (by rfl) (.inl rfl))
 (gs_cons (gs_for (t := (.name 3)) po (by rfl) (gi_seq (ge_sortset (by rfl) (gv 0) (by rfl) B.sorted (by rfl) B.set (by rfl) (by rfl))) (gg_name (i := 3) hnd (by rfl) (by first | exact Or.inl rfl | exact Or.inr rfl) (by first | exact Or.inl rfl | exact Or.inr rfl))
 (gs_cons (gs_if (gb_not (gb_truth (ge_idx (fun _ _ => rfl) (gv 2) (gv 3)) (fun _ => rfl)))
 (gs_cons (gs_expr (gm_append (gv 1) (gl_one (gv 3)) (by rfl) (by rfl) (by rfl) (by rfl) (by rfl)) (by rfl))
 (gs_cons (gs_for (t := (.name 4)) po (by rfl) (gi_rng2 (by rfl) B.range (by rfl) (by rfl) (gl_more (gv 3) (gl_one (gc_len (by rfl) (gl_one (gv 2)) (by rfl) (by rfl) (by rfl) B.len))) (sl_cons (sl_cons sl_nil))) (gg_name (i := 4) hnd (by rfl) (by first | exact Or.inl rfl | exact Or.inr rfl) (by first | exact Or.inl rfl | exact Or.inr rfl))
 (gs_cons (gs_setI' (ge_or (ge_idx (fun _ _ => rfl) (gv 2) (gv 4)) (ge_one1 (ge_idx (fun _ _ => rfl) (gv 2) (ge_bin (gv 4) (gv 3))))) (gv 2) (gv 4) (by rfl) (by rfl) (by rfl) (fun _ => rfl))
 gs_nil) (fun _ => rfl))
 gs_nil))
 gs_nil)
 gs_nil) (fun _ => rfl))
 (gs_cons (gs_ret (gv 1))
 gs_nil))))
/-! ### are_generators -/
abbrev stare_generators : Stmt := top 14
def Tare_generators : SS :=
 (sSeq2 (sIfS (sOrB (sNotB (sB (sIsi ["tuple"] (sVar 0)))) (sNotB (sB (sChain .LtE .LtE (sCon (.int 1)) (sArgs lenOp (sCons (sVar 0) sNil)) (sVar 1)))))
 (sSeq2 (sRet (sCon (.bl false)))
 sSkip)
 sSkip)
 (sSeq2 (sRet (sArgs allOp (sCons (sComp (sSeq (sVar 0)) (.name 2) sYes (sAnd (sArgs Fis_integer (sCons (sVar 2) sNil)) (sChain .LtE .LtE (sCon (.int 1)) (sVar 2) (sCon (.int 1000)))) (([("x", 2)] : List (Str × Nat)).map (·.2))) sNil)))
 sSkip))
def Fare_generators : List AV → Mem → Out AV := fnRun 2 3 Tare_generators
theorem scare_generators : FnScope ["value", "most", "x"] ["value", "most"] (defScope stare_generators) := C8.fnScope_by rfl
theorem okare_generators {P : Program} {w : World} {K : PySem.W.Frag} {mg : Str → Option Value} {base : Heap} {f : Addr} {fd : FuncData} (F : Fun K "are_generators" "are_generators" stare_generators f fd) (B : Bn mg) (C : Cs ⟨K, mg⟩) (cis_integer : CalD P w K mg base 1 "is_integer" Fis_integer) : FnOk P w K mg base (L2.CX P w) 2 f fd ["value", "most"] (spOf ⟨K, mg⟩ Fare_generators) := by
  refine fn_ok (N := ["value", "most", "x"]) F scare_generators (fun cdv A outer s H E hr => ?_)
  have hnd : (["value", "most", "x"] : List Str).Nodup := scare_generators.nd
  have hu : (A.deeper (envOfC "are_generators" (defScope stare_generators) s.heap.objs.size f cdv)).units + 65 < cLine := by have := hr.un; omega
  have tk : Takes (cxf P w K mg base ["value", "most", "x"] "are_generators" stare_generators f cdv A outer s H E) (fun cls d _ H' => E cls d H') := takes_of rfl rfl rfl rfl
  have po : PassesOwn (model P w) (cxf P w K mg base ["value", "most", "x"] "are_generators" stare_generators f cdv A outer s H E).A (cxf P w K mg base ["value", "most", "x"] "are_generators" stare_generators f cdv A outer s H E).env (cxf P w K mg base ["value", "most", "x"] "are_generators" stare_generators f cdv A outer s H E).xe := passes_of rfl
  exact (gs_cons (gs_if (gb_or (gb_not (gb_truth (ge_isi1 (u := "tuple") (by rfl) B.isinstance (by decide) (pe_bltn (by rfl) B.tuple boot_tuple (by rfl)) (gv 0) (by rfl) (by rfl) (by rfl)) (fun _ => rfl))) (gb_or1 (gb_not (gb_chain hu (by rfl) gn_int (gc_len (by rfl) (gl_one (gv 0)) (by rfl) (by rfl) (by rfl) B.len) (gv 1))))).pt
 (gs_cons (gs_ret gn_bl)
 gs_nil)
 gs_nil)
 (gs_cons (gs_ret (gc_all (by rfl) (gl_one (ge_comp (own := [("x", 2)]) (t := (.name 2)) (by rfl) hnd (gi_seq (gv 0)) (blkOk_by (by rfl)) (fun _ _ _ _ _ => (gg_name (i := 2) hnd (by rfl) (by first | exact Or.inl rfl | exact Or.inr rfl) (by first | exact Or.inl rfl | exact Or.inr rfl))) (fun _ _ _ _ _ => gts_nil) (fun _ _ _ _ _ => (ge_and (ge_call (by exact cis_integer.cald) (hr.mono (by decide)) takesW (by rfl) (gl_one (gv 2)) (by decide) (by rfl) (by rfl)) (ge_one1 (ge_chain hu (by rfl) gn_int (gv 2) (ge_cst C.kMOST_GENERATOR (by rfl) (by decide)))))) (fun _ => rfl) (by decide))) (by rfl) (by rfl) (by rfl) B.all))
 gs_nil))
/-! ### is_lot -/
abbrev stis_lot : Stmt := top 15
def Tis_lot : SS :=
 (sSeq2 (sIfS (sOrB (sNotB (sB (sArgs Fare_generators (sCons (sVar 0) (sCons (sCon (.int 12)) sNil))))) (sNotB (sB (sArgs allOp (sCons (sComp (sItm zipItm (sCons (sVar 0) (sCons (sSlice (sVar 0) (some (sCon (.int 1))) none) sNil))) (.tup (.cons (.name 1) (.cons (.name 2) .nil))) sYes (sCmp .Lt (sVar 1) (sVar 2)) (([("a", 1), ("b", 2)] : List (Str × Nat)).map (·.2))) sNil)))))
 (sSeq2 (sRet (sCon (.bl false)))
 sSkip)
 sSkip)
 (sSeq2 (sRet (sAnd (sCmp .Eq (sArgs Fcommon_of (sCons (sVar 0) sNil)) (sCon (.int 1))) (sCmp .Eq (sArgs Fleast_of (sCons (sVar 0) sNil)) (sArgs listOp (sCons (sVar 0) sNil)))))
 sSkip))
def Fis_lot : List AV → Mem → Out AV := fnRun 1 3 Tis_lot
theorem scis_lot : FnScope ["value", "a", "b"] ["value"] (defScope stis_lot) := C8.fnScope_by rfl
theorem okis_lot {P : Program} {w : World} {K : PySem.W.Frag} {mg : Str → Option Value} {base : Heap} {f : Addr} {fd : FuncData} (F : Fun K "is_lot" "is_lot" stis_lot f fd) (B : Bn mg) (C : Cs ⟨K, mg⟩) (care_generators : CalD P w K mg base 2 "are_generators" Fare_generators) (ccommon_of : CalD P w K mg base 2 "common_of" Fcommon_of) (cleast_of : CalD P w K mg base 1 "least_of" Fleast_of) : FnOk P w K mg base (L2.CX P w) 3 f fd ["value"] (spOf ⟨K, mg⟩ Fis_lot) := by
  refine fn_ok (N := ["value", "a", "b"]) F scis_lot (fun cdv A outer s H E hr => ?_)
  have hnd : (["value", "a", "b"] : List Str).Nodup := scis_lot.nd
  have hu : (A.deeper (envOfC "is_lot" (defScope stis_lot) s.heap.objs.size f cdv)).units + 65 < cLine := by have := hr.un; omega
  have tk : Takes (cxf P w K mg base ["value", "a", "b"] "is_lot" stis_lot f cdv A outer s H E) (fun cls d _ H' => E cls d H') := takes_of rfl rfl rfl rfl
  have po : PassesOwn (model P w) (cxf P w K mg base ["value", "a", "b"] "is_lot" stis_lot f cdv A outer s H E).A (cxf P w K mg base ["value", "a", "b"] "is_lot" stis_lot f cdv A outer s H E).env (cxf P w K mg base ["value", "a", "b"] "is_lot" stis_lot f cdv A outer s H E).xe := passes_of rfl
  exact (gs_cons (gs_if (gb_or (gb_not (gb_truth (ge_call (by exact care_generators.cald) (hr.mono (by decide)) tk (by rfl) (gl_more (gv 0) (gl_one (ge_cst C.kMOST_GENERATORS (by rfl) (by decide)))) (by decide) (by rfl) (by rfl)) (fun _ => rfl))) (gb_or1 (gb_not (gb_truth (gc_all (by rfl) (gl_one (ge_comp (own := [("a", 1), ("b", 2)]) (t := (.tup (.cons (.name 1) (.cons (.name 2) .nil)))) (by rfl) hnd (gi_zip (by rfl) B.zip (fun h => RZ.pi_zipA (by rfl) B.zip h) (gl_more (gv 0) (gl_one (gk_10 (gv 0) gn_int)))) (blkOk_by (by rfl)) (fun _ _ _ _ _ => (gg_tup (n := 2) (by rfl) (gg_cons (gg_name (i := 1) hnd (by rfl) (by first | exact Or.inl rfl | exact Or.inr rfl) (by first | exact Or.inl rfl | exact Or.inr rfl)) (gg_cons (gg_name (i := 2) hnd (by rfl) (by first | exact Or.inl rfl | exact Or.inr rfl) (by first | exact Or.inl rfl | exact Or.inr rfl)) gg_nil (by rfl)) (by rfl)) (by rfl) (by rfl) (tg_lenS (tg_lenS tg_len0)))) (fun _ _ _ _ _ => gts_nil) (fun _ _ _ _ _ => (ge_cmp hu (by rfl) (gv 1) (gv 2))) (fun _ => rfl) (by decide))) (by rfl) (by rfl) (by rfl) B.all) (fun _ => rfl))))).pt
 (gs_cons (gs_ret gn_bl)
 gs_nil)
 gs_nil)
 (gs_cons (gs_ret (ge_and (ge_cmp hu (by rfl) (ge_call (by exact ccommon_of.cald) (hr.mono (by decide)) tk (by rfl) (gl_one (gv 0)) (by decide) (by rfl) (by rfl)) gn_int) (ge_one1 (ge_cmp hu (by rfl) (ge_call (by exact cleast_of.cald) (hr.mono (by decide)) tk (by rfl) (gl_one (gv 0)) (by decide) (by rfl) (by rfl)) (gc_list (by rfl) (gl_one (gv 0)) (by rfl) (by rfl) (by rfl) B.list)))))
 gs_nil))
/-! ### check_lot -/
abbrev stcheck_lot : Stmt := top 16
def Tcheck_lot : SS :=
 (sSeq2 (sIfS (sNotB (sB (sArgs Fis_lot (sCons (sVar 0) sNil))))
 (sSeq2 (sRaise "Malformed" [])
 sSkip)
 sSkip)
 sSkip)
def Fcheck_lot : List AV → Mem → Out AV := fnRun 1 1 Tcheck_lot
theorem sccheck_lot : FnScope ["lot"] ["lot"] (defScope stcheck_lot) := C8.fnScope_by rfl
theorem okcheck_lot {P : Program} {w : World} {K : PySem.W.Frag} {mg : Str → Option Value} {base : Heap} {f CM CR fR : Addr} {fd : FuncData} (F : Fun K "check_lot" "check_lot" stcheck_lot f fd) (T : Errs P K mg CM CR fR) (cis_lot : CalD P w K mg base 3 "is_lot" Fis_lot) : FnOk P w K mg base (L2.CX P w) 4 f fd ["lot"] (spOf ⟨K, mg⟩ Fcheck_lot) := by
  refine fn_ok (N := ["lot"]) F sccheck_lot (fun cdv A outer s H E hr => ?_)
  have hnd : (["lot"] : List Str).Nodup := sccheck_lot.nd
  have hu : (A.deeper (envOfC "check_lot" (defScope stcheck_lot) s.heap.objs.size f cdv)).units + 65 < cLine := by have := hr.un; omega
  have tk : Takes (cxf P w K mg base ["lot"] "check_lot" stcheck_lot f cdv A outer s H E) (fun cls d _ H' => E cls d H') := takes_of rfl rfl rfl rfl
  have po : PassesOwn (model P w) (cxf P w K mg base ["lot"] "check_lot" stcheck_lot f cdv A outer s H E).A (cxf P w K mg base ["lot"] "check_lot" stcheck_lot f cdv A outer s H E).env (cxf P w K mg base ["lot"] "check_lot" stcheck_lot f cdv A outer s H E).xe := passes_of rfl
  exact (gs_cons (gs_if (gb_not (gb_truth (ge_call (by exact cis_lot.cald) (hr.mono (by decide)) tk (by rfl) (gl_one (gv 0)) (by decide) (by rfl) (by rfl)) (fun _ => rfl)))
 (gs_cons (gs_rM T (by rfl) tk (by rfl))
 gs_nil)
 gs_nil)
 gs_nil)
/-! ### bounded -/
abbrev stbounded : Stmt := top 17
def Tbounded : SS :=
 (sSeq2 (sIfS (sOrB (sB (sCmp .Gt (sArgs lenOp (sCons (sVar 0) sNil)) (sCon (.int 12)))) (sB (sCmp .Gt (sArgs maxOp2 (sCons (sVar 0) sNil)) (sCon (.int 1000)))))
 (sSeq2 (sRaise "Refused" [("reason", .str "large")])
 sSkip)
 sSkip)
 (sSeq2 (sRet (sArgs tupleOp (sCons (sVar 0) sNil)))
 sSkip))
def Fbounded : List AV → Mem → Out AV := fnRun 1 1 Tbounded
theorem scbounded : FnScope ["items"] ["items"] (defScope stbounded) := C8.fnScope_by rfl
theorem okbounded {P : Program} {w : World} {K : PySem.W.Frag} {mg : Str → Option Value} {base : Heap} {f CM CR fR : Addr} {fd : FuncData} (F : Fun K "bounded" "bounded" stbounded f fd) (B : Bn mg) (C : Cs ⟨K, mg⟩) (T : Errs P K mg CM CR fR) : FnOk P w K mg base (L2.CX P w) 2 f fd ["items"] (spOf ⟨K, mg⟩ Fbounded) := by
  refine fn_ok (N := ["items"]) F scbounded (fun cdv A outer s H E hr => ?_)
  have hnd : (["items"] : List Str).Nodup := scbounded.nd
  have hu : (A.deeper (envOfC "bounded" (defScope stbounded) s.heap.objs.size f cdv)).units + 65 < cLine := by have := hr.un; omega
  have tk : Takes (cxf P w K mg base ["items"] "bounded" stbounded f cdv A outer s H E) (fun cls d _ H' => E cls d H') := takes_of rfl rfl rfl rfl
  have po : PassesOwn (model P w) (cxf P w K mg base ["items"] "bounded" stbounded f cdv A outer s H E).A (cxf P w K mg base ["items"] "bounded" stbounded f cdv A outer s H E).env (cxf P w K mg base ["items"] "bounded" stbounded f cdv A outer s H E).xe := passes_of rfl
  exact (gs_cons (gs_if (gb_or (gb_cmp hu (by rfl) (gc_len (by rfl) (gl_one (gv 0)) (by rfl) (by rfl) (by rfl) B.len) (ge_cst C.kMOST_GENERATORS (by rfl) (by decide))) (gb_or1 (gb_cmp hu (by rfl) (gc_max2 hu (by rfl) (gl_one (gv 0)) (by rfl) (by rfl) (by rfl) B.max) (ge_cst C.kMOST_GENERATOR (by rfl) (by decide))))).pt
 (gs_cons (gs_rR T (by rfl) tk hr (by rfl))
 gs_nil)
 gs_nil)
 (gs_cons (gs_ret (gc_tuple (by rfl) (gl_one (gv 0)) (by rfl) (by rfl) (by rfl) B.tuple))
 gs_nil))
/-! ### lot_of -/
abbrev stlot_of : Stmt := top 18
def Tlot_of : SS :=
 (sSeq2 (sIfS (sNotB (sB (sArgs Fare_generators (sCons (sVar 0) (sCons (sCon (.int 60)) sNil)))))
 (sSeq2 (sRaise "Malformed" [])
 sSkip)
 sSkip)
 (sSeq2 (sIfS (sB (sCmp .NotEq (sArgs Fcommon_of (sCons (sVar 0) sNil)) (sCon (.int 1))))
 (sSeq2 (sRaise "Refused" [("reason", .str "common")])
 sSkip)
 sSkip)
 (sSeq2 (sRet (sArgs Fbounded (sCons (sArgs Fleast_of (sCons (sVar 0) sNil)) sNil)))
 sSkip)))
def Flot_of : List AV → Mem → Out AV := fnRun 1 1 Tlot_of
theorem sclot_of : FnScope ["generators"] ["generators"] (defScope stlot_of) := C8.fnScope_by rfl
theorem oklot_of {P : Program} {w : World} {K : PySem.W.Frag} {mg : Str → Option Value} {base : Heap} {f CM CR fR : Addr} {fd : FuncData} (F : Fun K "lot_of" "lot_of" stlot_of f fd) (C : Cs ⟨K, mg⟩) (T : Errs P K mg CM CR fR) (care_generators : CalD P w K mg base 2 "are_generators" Fare_generators) (cbounded : CalD P w K mg base 2 "bounded" Fbounded) (ccommon_of : CalD P w K mg base 2 "common_of" Fcommon_of) (cleast_of : CalD P w K mg base 1 "least_of" Fleast_of) : FnOk P w K mg base (L2.CX P w) 3 f fd ["generators"] (spOf ⟨K, mg⟩ Flot_of) := by
  refine fn_ok (N := ["generators"]) F sclot_of (fun cdv A outer s H E hr => ?_)
  have hnd : (["generators"] : List Str).Nodup := sclot_of.nd
  have hu : (A.deeper (envOfC "lot_of" (defScope stlot_of) s.heap.objs.size f cdv)).units + 65 < cLine := by have := hr.un; omega
  have tk : Takes (cxf P w K mg base ["generators"] "lot_of" stlot_of f cdv A outer s H E) (fun cls d _ H' => E cls d H') := takes_of rfl rfl rfl rfl
  have po : PassesOwn (model P w) (cxf P w K mg base ["generators"] "lot_of" stlot_of f cdv A outer s H E).A (cxf P w K mg base ["generators"] "lot_of" stlot_of f cdv A outer s H E).env (cxf P w K mg base ["generators"] "lot_of" stlot_of f cdv A outer s H E).xe := passes_of rfl
  exact (gs_cons (gs_if (gb_not (gb_truth (ge_call (by exact care_generators.cald) (hr.mono (by decide)) tk (by rfl) (gl_more (gv 0) (gl_one (ge_cst C.kMOST_GIVEN (by rfl) (by decide)))) (by decide) (by rfl) (by rfl)) (fun _ => rfl)))
 (gs_cons (gs_rM T (by rfl) tk (by rfl))
 gs_nil)
 gs_nil)
 (gs_cons (gs_if (gb_cmp hu (by rfl) (ge_call (by exact ccommon_of.cald) (hr.mono (by decide)) tk (by rfl) (gl_one (gv 0)) (by decide) (by rfl) (by rfl)) gn_int)
 (gs_cons (gs_rR T (by rfl) tk hr (by rfl))
 gs_nil)
 gs_nil)
 (gs_cons (gs_ret (ge_call (by exact cbounded.cald) (hr.mono (by decide)) tk (by rfl) (gl_one (ge_call (by exact cleast_of.cald) (hr.mono (by decide)) tk (by rfl) (gl_one (gv 0)) (by decide) (by rfl) (by rfl))) (by decide) (by rfl) (by rfl)))
 gs_nil)))
/-! ### apery_of -/
abbrev stapery_of : Stmt := top 19
def Tapery_of : SS :=
 (sSeq2 (sAsg 2 true (sBin .Mult (sLst (sCons (sCon .non) sNil)) (sVar 1)))
 (sSeq2 (sSetI (sVar 2) (sCon (.int 0)) (sCon (.int 0)))
 (sSeq2 (sFor (sSeq (sVar 0)) (.name 3)
 (sSeq2 (sAsg 4 false (sBin .FloorDiv (sVar 1) (sArgs Fgreatest_common (sCons (sVar 3) (sCons (sVar 1) sNil)))))
 (sSeq2 (sFor (sRng (sCons (sBin .FloorDiv (sVar 1) (sVar 4)) sNil)) (.name 5)
 (sSeq2 (sAsg 6 false (sComp (sRng (sCons (sVar 4) sNil)) (.name 11) sYes (sBin .Mod (sBin .Add (sVar 5) (sBin .Mult (sVar 11) (sVar 3))) (sVar 1)) (([("k", 11)] : List (Str × Nat)).map (·.2))))
 (sSeq2 (sAsg 7 false (sComp (sSeq (sVar 6)) (.name 10) (sB (sCmp .IsNot (sIdx (sVar 2) (sVar 10)) (sCon .non))) (sIdx (sVar 2) (sVar 10)) (([("r", 10)] : List (Str × Nat)).map (·.2))))
 (sSeq2 (sIfS (sB (sCmp .Gt (sArgs lenOp (sCons (sVar 7) sNil)) (sCon (.int 0))))
 (sSeq2 (sAsg 8 false (sIndex (sVar 6) (sBin .Mod (sArgs minOp2 (sCons (sVar 7) sNil)) (sVar 1))))
 (sSeq2 (sAsg 9 false (sArgs minOp2 (sCons (sVar 7) sNil)))
 (sSeq2 (sFor (sSeq (sBin .Add (sSlice (sVar 6) (some (sVar 8)) none) (sSlice (sVar 6) none (some (sVar 8))))) (.name 10)
 (sSeq2 (sAsg 9 false (sIf (sB (sCmp .Is (sIdx (sVar 2) (sVar 10)) (sCon .non))) (sVar 9) (sArgs minOp2 (sCons (sVar 9) (sCons (sIdx (sVar 2) (sVar 10)) sNil)))))
 (sSeq2 (sSetI (sVar 2) (sVar 10) (sVar 9))
 (sSeq2 (sAug 9 .Add (sVar 3))
 sSkip))))
 sSkip)))
 sSkip)
 sSkip))))
 sSkip)))
 (sSeq2 (sRet (sVar 2))
 sSkip))))
def Fapery_of : List AV → Mem → Out AV := fnRun 2 12 Tapery_of
theorem scapery_of : FnScope ["lot", "m", "found", "g", "size", "start", "circle", "known", "at", "now", "r", "k"] ["lot", "m"] (defScope stapery_of) := C8.fnScope_by rfl
theorem okapery_of {P : Program} {w : World} {K : PySem.W.Frag} {mg : Str → Option Value} {base : Heap} {f : Addr} {fd : FuncData} (F : Fun K "apery_of" "apery_of" stapery_of f fd) (B : Bn mg) (cgreatest_common : CalD P w K mg base 1 "greatest_common" Fgreatest_common) : FnOk P w K mg base (L2.CX P w) 2 f fd ["lot", "m"] (spOf ⟨K, mg⟩ Fapery_of) := by
  refine fn_ok (N := ["lot", "m", "found", "g", "size", "start", "circle", "known", "at", "now", "r", "k"]) F scapery_of (fun cdv A outer s H E hr => ?_)
  have hnd : (["lot", "m", "found", "g", "size", "start", "circle", "known", "at", "now", "r", "k"] : List Str).Nodup := scapery_of.nd
  have hu : (A.deeper (envOfC "apery_of" (defScope stapery_of) s.heap.objs.size f cdv)).units + 65 < cLine := by have := hr.un; omega
  have tk : Takes (cxf P w K mg base ["lot", "m", "found", "g", "size", "start", "circle", "known", "at", "now", "r", "k"] "apery_of" stapery_of f cdv A outer s H E) (fun cls d _ H' => E cls d H') := takes_of rfl rfl rfl rfl
  have po : PassesOwn (model P w) (cxf P w K mg base ["lot", "m", "found", "g", "size", "start", "circle", "known", "at", "now", "r", "k"] "apery_of" stapery_of f cdv A outer s H E).A (cxf P w K mg base ["lot", "m", "found", "g", "size", "start", "circle", "known", "at", "now", "r", "k"] "apery_of" stapery_of f cdv A outer s H E).env (cxf P w K mg base ["lot", "m", "found", "g", "size", "start", "circle", "known", "at", "now", "r", "k"] "apery_of" stapery_of f cdv A outer s H E).xe := passes_of rfl
  exact (gs_cons (gs_asg (i := 2) (m := true) hnd (by rfl) (by first | exact Or.inl rfl | exact Or.inr rfl) (ge_bin (ge_lst (gl_one gn_non)) (gv 1)) (by rfl) (.inl rfl))
 (gs_cons (gs_setI' gn_int (gv 2) gn_int (by rfl) (by rfl) (by rfl) (fun _ => rfl))
 (gs_cons (gs_for (t := (.name 3)) po (by rfl) (gi_seq (gv 0)) (gg_name (i := 3) hnd (by rfl) (by first | exact Or.inl rfl | exact Or.inr rfl) (by first | exact Or.inl rfl | exact Or.inr rfl))
 (gs_cons (gs_asg (i := 4) (m := false) hnd (by rfl) (by first | exact Or.inl rfl | exact Or.inr rfl) (ge_bin (gv 1) (ge_call (by exact cgreatest_common.cald) (hr.mono (by decide)) tk (by rfl) (gl_more (gv 3) (gl_one (gv 1))) (by decide) (by rfl) (by rfl))) (by rfl) (.inl rfl))
 (gs_cons (gs_for (t := (.name 5)) po (by rfl) (gi_rng1 (by rfl) B.range (by rfl) (gl_one (ge_bin (gv 1) (gv 4))) (sl_cons sl_nil)) (gg_name (i := 5) hnd (by rfl) (by first | exact Or.inl rfl | exact Or.inr rfl) (by first | exact Or.inl rfl | exact Or.inr rfl))
 (gs_cons (gs_asgLc (i := 6) (m := false) (own := [("k", 11)]) (t := (.name 11)) (by rfl) hnd (by rfl) (by rfl) (by rfl) (gi_rng1 (by rfl) B.range (by rfl) (gl_one (gv 4)) (sl_cons sl_nil)) (blkOk_by (by rfl)) (fun _ _ _ _ _ => (gg_name (i := 11) hnd (by rfl) (by first | exact Or.inl rfl | exact Or.inr rfl) (by first | exact Or.inl rfl | exact Or.inr rfl))) (fun _ _ _ _ _ => gts_nil) (fun _ _ _ _ _ => (ge_bin (ge_bin (gv 5) (ge_bin (gv 11) (gv 3))) (gv 1))) (fun _ => rfl) (by decide))
 (gs_cons (gs_asgLc (i := 7) (m := false) (own := [("r", 10)]) (t := (.name 10)) (by rfl) hnd (by rfl) (by rfl) (by rfl) (gi_seq (gv 6)) (blkOk_by (by rfl)) (fun _ _ _ _ _ => (gg_name (i := 10) hnd (by rfl) (by first | exact Or.inl rfl | exact Or.inr rfl) (by first | exact Or.inl rfl | exact Or.inr rfl))) (fun _ _ _ _ _ => gts_one (gb_cmp hu (by rfl) (ge_idx (fun _ _ => rfl) (gv 2) (gv 10)) gn_non)) (fun _ _ _ _ _ => (ge_idx (fun _ _ => rfl) (gv 2) (gv 10))) (fun _ => rfl) (by decide))
 (gs_cons (gs_if (gb_cmp hu (by rfl) (gc_len (by rfl) (gl_one (gv 7)) (by rfl) (by rfl) (by rfl) B.len) gn_int)
 (gs_cons (gs_asg (i := 8) (m := false) hnd (by rfl) (by first | exact Or.inl rfl | exact Or.inr rfl) (gm_index (gv 6) (ge_bin (gc_min2 hu (by rfl) (gl_one (gv 7)) (by rfl) (by rfl) (by rfl) B.min) (gv 1)) (by rfl) (by rfl) (by rfl) (by rfl) (by rfl)) (by rfl) (.inl rfl))
 (gs_cons (gs_asg (i := 9) (m := false) hnd (by rfl) (by first | exact Or.inl rfl | exact Or.inr rfl) (gc_min2 hu (by rfl) (gl_one (gv 7)) (by rfl) (by rfl) (by rfl) B.min) (by rfl) (.inl rfl))
 (gs_cons (gs_for (t := (.name 10)) po (by rfl) (gi_seq (ge_bin (gk_10 (gv 6) (gv 8)) (gk_01 (gv 6) (gv 8)))) (gg_name (i := 10) hnd (by rfl) (by first | exact Or.inl rfl | exact Or.inr rfl) (by first | exact Or.inl rfl | exact Or.inr rfl))
 (gs_cons (gs_asg (i := 9) (m := false) hnd (by rfl) (by first | exact Or.inl rfl | exact Or.inr rfl) (ge_if (gb_cmp hu (by rfl) (ge_idx (fun _ _ => rfl) (gv 2) (gv 10)) gn_non) (gv 9) (gc_min2 hu (by rfl) (gl_more (gv 9) (gl_one (ge_idx (fun _ _ => rfl) (gv 2) (gv 10)))) (by rfl) (by rfl) (by rfl) B.min)) (by rfl) (.inl rfl))
 (gs_cons (gs_setI' (gv 9) (gv 2) (gv 10) (by rfl) (by rfl) (by rfl) (fun _ => rfl))
 (gs_cons (gs_aug (i := 9) hnd (by rfl) (by first | exact Or.inl rfl | exact Or.inr rfl) (gv 3) (.inl rfl))
 gs_nil))) (fun _ => rfl))
 gs_nil)))
 gs_nil)
 gs_nil))) (fun _ => rfl))
 gs_nil)) (fun _ => rfl))
 (gs_cons (gs_ret (gv 2))
 gs_nil))))
/-! ### holds -/
abbrev stholds : Stmt := top 20
def Tholds : SS :=
 (sSeq2 (sRet (sAnd (sCmp .GtE (sVar 1) (sCon (.int 0))) (sCmp .LtE (sIdx (sArgs Fapery_of (sCons (sVar 0) (sCons (sIdx (sVar 0) (sCon (.int 0))) sNil))) (sBin .Mod (sVar 1) (sIdx (sVar 0) (sCon (.int 0))))) (sVar 1))))
 sSkip)
def Fholds : List AV → Mem → Out AV := fnRun 2 2 Tholds
theorem scholds : FnScope ["lot", "k"] ["lot", "k"] (defScope stholds) := C8.fnScope_by rfl
theorem okholds {P : Program} {w : World} {K : PySem.W.Frag} {mg : Str → Option Value} {base : Heap} {f : Addr} {fd : FuncData} (F : Fun K "holds" "holds" stholds f fd) (capery_of : CalD P w K mg base 2 "apery_of" Fapery_of) : FnOk P w K mg base (L2.CX P w) 3 f fd ["lot", "k"] (spOf ⟨K, mg⟩ Fholds) := by
  refine fn_ok (N := ["lot", "k"]) F scholds (fun cdv A outer s H E hr => ?_)
  have hnd : (["lot", "k"] : List Str).Nodup := scholds.nd
  have hu : (A.deeper (envOfC "holds" (defScope stholds) s.heap.objs.size f cdv)).units + 65 < cLine := by have := hr.un; omega
  have tk : Takes (cxf P w K mg base ["lot", "k"] "holds" stholds f cdv A outer s H E) (fun cls d _ H' => E cls d H') := takes_of rfl rfl rfl rfl
  have po : PassesOwn (model P w) (cxf P w K mg base ["lot", "k"] "holds" stholds f cdv A outer s H E).A (cxf P w K mg base ["lot", "k"] "holds" stholds f cdv A outer s H E).env (cxf P w K mg base ["lot", "k"] "holds" stholds f cdv A outer s H E).xe := passes_of rfl
  exact (gs_cons (gs_ret (ge_and (ge_cmp hu (by rfl) (gv 1) gn_int) (ge_one1 (ge_cmp hu (by rfl) (ge_idx (fun _ _ => rfl) (ge_call (by exact capery_of.cald) (hr.mono (by decide)) tk (by rfl) (gl_more (gv 0) (gl_one (ge_idx (fun _ _ => rfl) (gv 0) gn_int))) (by decide) (by rfl) (by rfl)) (ge_bin (gv 1) (ge_idx (fun _ _ => rfl) (gv 0) gn_int))) (gv 1)))))
 gs_nil)
/-! ### lot_holds -/
abbrev stlot_holds : Stmt := top 21
def Tlot_holds : SS :=
 (sSeq2 (sExpr (sArgs Fcheck_lot (sCons (sVar 0) sNil)))
 (sSeq2 (sIfS (sNotB (sB (sArgs Fis_integer (sCons (sVar 1) sNil))))
 (sSeq2 (sRaise "Malformed" [])
 sSkip)
 sSkip)
 (sSeq2 (sRet (sArgs Fholds (sCons (sVar 0) (sCons (sVar 1) sNil))))
 sSkip)))
def Flot_holds : List AV → Mem → Out AV := fnRun 2 2 Tlot_holds
theorem sclot_holds : FnScope ["lot", "k"] ["lot", "k"] (defScope stlot_holds) := C8.fnScope_by rfl
theorem oklot_holds {P : Program} {w : World} {K : PySem.W.Frag} {mg : Str → Option Value} {base : Heap} {f CM CR fR : Addr} {fd : FuncData} (F : Fun K "lot_holds" "lot_holds" stlot_holds f fd) (T : Errs P K mg CM CR fR) (ccheck_lot : CalD P w K mg base 4 "check_lot" Fcheck_lot) (cholds : CalD P w K mg base 3 "holds" Fholds) (cis_integer : CalD P w K mg base 1 "is_integer" Fis_integer) : FnOk P w K mg base (L2.CX P w) 5 f fd ["lot", "k"] (spOf ⟨K, mg⟩ Flot_holds) := by
  refine fn_ok (N := ["lot", "k"]) F sclot_holds (fun cdv A outer s H E hr => ?_)
  have hnd : (["lot", "k"] : List Str).Nodup := sclot_holds.nd
  have hu : (A.deeper (envOfC "lot_holds" (defScope stlot_holds) s.heap.objs.size f cdv)).units + 65 < cLine := by have := hr.un; omega
  have tk : Takes (cxf P w K mg base ["lot", "k"] "lot_holds" stlot_holds f cdv A outer s H E) (fun cls d _ H' => E cls d H') := takes_of rfl rfl rfl rfl
  have po : PassesOwn (model P w) (cxf P w K mg base ["lot", "k"] "lot_holds" stlot_holds f cdv A outer s H E).A (cxf P w K mg base ["lot", "k"] "lot_holds" stlot_holds f cdv A outer s H E).env (cxf P w K mg base ["lot", "k"] "lot_holds" stlot_holds f cdv A outer s H E).xe := passes_of rfl
  exact (gs_cons (gs_expr (ge_call (by exact ccheck_lot.cald) (hr.mono (by decide)) tk (by rfl) (gl_one (gv 0)) (by decide) (by rfl) (by rfl)) (by rfl))
 (gs_cons (gs_if (gb_not (gb_truth (ge_call (by exact cis_integer.cald) (hr.mono (by decide)) tk (by rfl) (gl_one (gv 1)) (by decide) (by rfl) (by rfl)) (fun _ => rfl)))
 (gs_cons (gs_rM T (by rfl) tk (by rfl))
 gs_nil)
 gs_nil)
 (gs_cons (gs_ret (ge_call (by exact cholds.cald) (hr.mono (by decide)) tk (by rfl) (gl_more (gv 0) (gl_one (gv 1))) (by decide) (by rfl) (by rfl)))
 gs_nil)))
/-! ### lot_apery -/
abbrev stlot_apery : Stmt := top 22
def Tlot_apery : SS :=
 (sSeq2 (sExpr (sArgs Fcheck_lot (sCons (sVar 0) sNil)))
 (sSeq2 (sIfS (sOrB (sNotB (sB (sArgs Fis_integer (sCons (sVar 1) sNil)))) (sOrB (sNotB (sB (sChain .LtE .LtE (sCon (.int 1)) (sVar 1) (sCon (.int 1000))))) (sNotB (sB (sArgs Fholds (sCons (sVar 0) (sCons (sVar 1) sNil)))))))
 (sSeq2 (sRaise "Malformed" [])
 sSkip)
 sSkip)
 (sSeq2 (sRet (sArgs tupleOp (sCons (sArgs Fapery_of (sCons (sVar 0) (sCons (sVar 1) sNil))) sNil)))
 sSkip)))
def Flot_apery : List AV → Mem → Out AV := fnRun 2 2 Tlot_apery
theorem sclot_apery : FnScope ["lot", "m"] ["lot", "m"] (defScope stlot_apery) := C8.fnScope_by rfl
theorem oklot_apery {P : Program} {w : World} {K : PySem.W.Frag} {mg : Str → Option Value} {base : Heap} {f CM CR fR : Addr} {fd : FuncData} (F : Fun K "lot_apery" "lot_apery" stlot_apery f fd) (B : Bn mg) (C : Cs ⟨K, mg⟩) (T : Errs P K mg CM CR fR) (capery_of : CalD P w K mg base 2 "apery_of" Fapery_of) (ccheck_lot : CalD P w K mg base 4 "check_lot" Fcheck_lot) (cholds : CalD P w K mg base 3 "holds" Fholds) (cis_integer : CalD P w K mg base 1 "is_integer" Fis_integer) : FnOk P w K mg base (L2.CX P w) 5 f fd ["lot", "m"] (spOf ⟨K, mg⟩ Flot_apery) := by
  refine fn_ok (N := ["lot", "m"]) F sclot_apery (fun cdv A outer s H E hr => ?_)
  have hnd : (["lot", "m"] : List Str).Nodup := sclot_apery.nd
  have hu : (A.deeper (envOfC "lot_apery" (defScope stlot_apery) s.heap.objs.size f cdv)).units + 65 < cLine := by have := hr.un; omega
  have tk : Takes (cxf P w K mg base ["lot", "m"] "lot_apery" stlot_apery f cdv A outer s H E) (fun cls d _ H' => E cls d H') := takes_of rfl rfl rfl rfl
  have po : PassesOwn (model P w) (cxf P w K mg base ["lot", "m"] "lot_apery" stlot_apery f cdv A outer s H E).A (cxf P w K mg base ["lot", "m"] "lot_apery" stlot_apery f cdv A outer s H E).env (cxf P w K mg base ["lot", "m"] "lot_apery" stlot_apery f cdv A outer s H E).xe := passes_of rfl
  exact (gs_cons (gs_expr (ge_call (by exact ccheck_lot.cald) (hr.mono (by decide)) tk (by rfl) (gl_one (gv 0)) (by decide) (by rfl) (by rfl)) (by rfl))
 (gs_cons (gs_if (gb_or (gb_not (gb_truth (ge_call (by exact cis_integer.cald) (hr.mono (by decide)) tk (by rfl) (gl_one (gv 1)) (by decide) (by rfl) (by rfl)) (fun _ => rfl))) (gb_or (gb_not (gb_chain hu (by rfl) gn_int (gv 1) (ge_cst C.kMOST_GENERATOR (by rfl) (by decide)))) (gb_or1 (gb_not (gb_truth (ge_call (by exact cholds.cald) (hr.mono (by decide)) tk (by rfl) (gl_more (gv 0) (gl_one (gv 1))) (by decide) (by rfl) (by rfl)) (fun _ => rfl)))))).pt
 (gs_cons (gs_rM T (by rfl) tk (by rfl))
 gs_nil)
 gs_nil)
 (gs_cons (gs_ret (gc_tuple (by rfl) (gl_one (ge_call (by exact capery_of.cald) (hr.mono (by decide)) tk (by rfl) (gl_more (gv 0) (gl_one (gv 1))) (by decide) (by rfl) (by rfl))) (by rfl) (by rfl) (by rfl) B.tuple))
 gs_nil)))
/-! ### conductor_of_lot -/
abbrev stconductor_of_lot : Stmt := top 23
def Tconductor_of_lot : SS :=
 (sSeq2 (sRet (sBin .Add (sBin .Sub (sArgs maxOp2 (sCons (sArgs Fapery_of (sCons (sVar 0) (sCons (sIdx (sVar 0) (sCon (.int 0))) sNil))) sNil)) (sIdx (sVar 0) (sCon (.int 0)))) (sCon (.int 1))))
 sSkip)
def Fconductor_of_lot : List AV → Mem → Out AV := fnRun 1 1 Tconductor_of_lot
theorem scconductor_of_lot : FnScope ["lot"] ["lot"] (defScope stconductor_of_lot) := C8.fnScope_by rfl
theorem okconductor_of_lot {P : Program} {w : World} {K : PySem.W.Frag} {mg : Str → Option Value} {base : Heap} {f : Addr} {fd : FuncData} (F : Fun K "conductor_of_lot" "conductor_of_lot" stconductor_of_lot f fd) (B : Bn mg) (capery_of : CalD P w K mg base 2 "apery_of" Fapery_of) : FnOk P w K mg base (L2.CX P w) 3 f fd ["lot"] (spOf ⟨K, mg⟩ Fconductor_of_lot) := by
  refine fn_ok (N := ["lot"]) F scconductor_of_lot (fun cdv A outer s H E hr => ?_)
  have hnd : (["lot"] : List Str).Nodup := scconductor_of_lot.nd
  have hu : (A.deeper (envOfC "conductor_of_lot" (defScope stconductor_of_lot) s.heap.objs.size f cdv)).units + 65 < cLine := by have := hr.un; omega
  have tk : Takes (cxf P w K mg base ["lot"] "conductor_of_lot" stconductor_of_lot f cdv A outer s H E) (fun cls d _ H' => E cls d H') := takes_of rfl rfl rfl rfl
  have po : PassesOwn (model P w) (cxf P w K mg base ["lot"] "conductor_of_lot" stconductor_of_lot f cdv A outer s H E).A (cxf P w K mg base ["lot"] "conductor_of_lot" stconductor_of_lot f cdv A outer s H E).env (cxf P w K mg base ["lot"] "conductor_of_lot" stconductor_of_lot f cdv A outer s H E).xe := passes_of rfl
  exact (gs_cons (gs_ret (ge_bin (ge_bin (gc_max2 hu (by rfl) (gl_one (ge_call (by exact capery_of.cald) (hr.mono (by decide)) tk (by rfl) (gl_more (gv 0) (gl_one (ge_idx (fun _ _ => rfl) (gv 0) gn_int))) (by decide) (by rfl) (by rfl))) (by rfl) (by rfl) (by rfl) B.max) (ge_idx (fun _ _ => rfl) (gv 0) gn_int)) gn_int))
 gs_nil)
/-! ### genus_of_lot -/
abbrev stgenus_of_lot : Stmt := top 24
def Tgenus_of_lot : SS :=
 (sSeq2 (sAsg 1 false (sIdx (sVar 0) (sCon (.int 0))))
 (sSeq2 (sRet (sBin .FloorDiv (sBin .Sub (sBin .Mult (sCon (.int 2)) (sArgs sumOp (sCons (sArgs Fapery_of (sCons (sVar 0) (sCons (sVar 1) sNil))) sNil))) (sBin .Mult (sVar 1) (sBin .Sub (sVar 1) (sCon (.int 1))))) (sBin .Mult (sCon (.int 2)) (sVar 1))))
 sSkip))
def Fgenus_of_lot : List AV → Mem → Out AV := fnRun 1 2 Tgenus_of_lot
theorem scgenus_of_lot : FnScope ["lot", "m"] ["lot"] (defScope stgenus_of_lot) := C8.fnScope_by rfl
theorem okgenus_of_lot {P : Program} {w : World} {K : PySem.W.Frag} {mg : Str → Option Value} {base : Heap} {f : Addr} {fd : FuncData} (F : Fun K "genus_of_lot" "genus_of_lot" stgenus_of_lot f fd) (B : Bn mg) (capery_of : CalD P w K mg base 2 "apery_of" Fapery_of) : FnOk P w K mg base (L2.CX P w) 3 f fd ["lot"] (spOf ⟨K, mg⟩ Fgenus_of_lot) := by
  refine fn_ok (N := ["lot", "m"]) F scgenus_of_lot (fun cdv A outer s H E hr => ?_)
  have hnd : (["lot", "m"] : List Str).Nodup := scgenus_of_lot.nd
  have hu : (A.deeper (envOfC "genus_of_lot" (defScope stgenus_of_lot) s.heap.objs.size f cdv)).units + 65 < cLine := by have := hr.un; omega
  have tk : Takes (cxf P w K mg base ["lot", "m"] "genus_of_lot" stgenus_of_lot f cdv A outer s H E) (fun cls d _ H' => E cls d H') := takes_of rfl rfl rfl rfl
  have po : PassesOwn (model P w) (cxf P w K mg base ["lot", "m"] "genus_of_lot" stgenus_of_lot f cdv A outer s H E).A (cxf P w K mg base ["lot", "m"] "genus_of_lot" stgenus_of_lot f cdv A outer s H E).env (cxf P w K mg base ["lot", "m"] "genus_of_lot" stgenus_of_lot f cdv A outer s H E).xe := passes_of rfl
  exact (gs_cons (gs_asg (i := 1) (m := false) hnd (by rfl) (by first | exact Or.inl rfl | exact Or.inr rfl) (ge_idx (fun _ _ => rfl) (gv 0) gn_int) (by rfl) (.inl rfl))
 (gs_cons (gs_ret (ge_bin (ge_bin (ge_bin gn_int (gc_sum (by rfl) (gl_one (ge_call (by exact capery_of.cald) (hr.mono (by decide)) tk (by rfl) (gl_more (gv 0) (gl_one (gv 1))) (by decide) (by rfl) (by rfl))) (by rfl) (by rfl) (by rfl) B.sum)) (ge_bin (gv 1) (ge_bin (gv 1) gn_int))) (ge_bin gn_int (gv 1))))
 gs_nil))
/-! ### lot_conductor -/
abbrev stlot_conductor : Stmt := top 25
def Tlot_conductor : SS :=
 (sSeq2 (sExpr (sArgs Fcheck_lot (sCons (sVar 0) sNil)))
 (sSeq2 (sRet (sArgs Fconductor_of_lot (sCons (sVar 0) sNil)))
 sSkip))
def Flot_conductor : List AV → Mem → Out AV := fnRun 1 1 Tlot_conductor
theorem sclot_conductor : FnScope ["lot"] ["lot"] (defScope stlot_conductor) := C8.fnScope_by rfl
theorem oklot_conductor {P : Program} {w : World} {K : PySem.W.Frag} {mg : Str → Option Value} {base : Heap} {f : Addr} {fd : FuncData} (F : Fun K "lot_conductor" "lot_conductor" stlot_conductor f fd) (ccheck_lot : CalD P w K mg base 4 "check_lot" Fcheck_lot) (cconductor_of_lot : CalD P w K mg base 3 "conductor_of_lot" Fconductor_of_lot) : FnOk P w K mg base (L2.CX P w) 5 f fd ["lot"] (spOf ⟨K, mg⟩ Flot_conductor) := by
  refine fn_ok (N := ["lot"]) F sclot_conductor (fun cdv A outer s H E hr => ?_)
  have hnd : (["lot"] : List Str).Nodup := sclot_conductor.nd
  have hu : (A.deeper (envOfC "lot_conductor" (defScope stlot_conductor) s.heap.objs.size f cdv)).units + 65 < cLine := by have := hr.un; omega
  have tk : Takes (cxf P w K mg base ["lot"] "lot_conductor" stlot_conductor f cdv A outer s H E) (fun cls d _ H' => E cls d H') := takes_of rfl rfl rfl rfl
  have po : PassesOwn (model P w) (cxf P w K mg base ["lot"] "lot_conductor" stlot_conductor f cdv A outer s H E).A (cxf P w K mg base ["lot"] "lot_conductor" stlot_conductor f cdv A outer s H E).env (cxf P w K mg base ["lot"] "lot_conductor" stlot_conductor f cdv A outer s H E).xe := passes_of rfl
  exact (gs_cons (gs_expr (ge_call (by exact ccheck_lot.cald) (hr.mono (by decide)) tk (by rfl) (gl_one (gv 0)) (by decide) (by rfl) (by rfl)) (by rfl))
 (gs_cons (gs_ret (ge_call (by exact cconductor_of_lot.cald) (hr.mono (by decide)) tk (by rfl) (gl_one (gv 0)) (by decide) (by rfl) (by rfl)))
 gs_nil))
/-! ### lot_genus -/
abbrev stlot_genus : Stmt := top 26
def Tlot_genus : SS :=
 (sSeq2 (sExpr (sArgs Fcheck_lot (sCons (sVar 0) sNil)))
 (sSeq2 (sRet (sArgs Fgenus_of_lot (sCons (sVar 0) sNil)))
 sSkip))
def Flot_genus : List AV → Mem → Out AV := fnRun 1 1 Tlot_genus
theorem sclot_genus : FnScope ["lot"] ["lot"] (defScope stlot_genus) := C8.fnScope_by rfl
theorem oklot_genus {P : Program} {w : World} {K : PySem.W.Frag} {mg : Str → Option Value} {base : Heap} {f : Addr} {fd : FuncData} (F : Fun K "lot_genus" "lot_genus" stlot_genus f fd) (ccheck_lot : CalD P w K mg base 4 "check_lot" Fcheck_lot) (cgenus_of_lot : CalD P w K mg base 3 "genus_of_lot" Fgenus_of_lot) : FnOk P w K mg base (L2.CX P w) 5 f fd ["lot"] (spOf ⟨K, mg⟩ Flot_genus) := by
  refine fn_ok (N := ["lot"]) F sclot_genus (fun cdv A outer s H E hr => ?_)
  have hnd : (["lot"] : List Str).Nodup := sclot_genus.nd
  have hu : (A.deeper (envOfC "lot_genus" (defScope stlot_genus) s.heap.objs.size f cdv)).units + 65 < cLine := by have := hr.un; omega
  have tk : Takes (cxf P w K mg base ["lot"] "lot_genus" stlot_genus f cdv A outer s H E) (fun cls d _ H' => E cls d H') := takes_of rfl rfl rfl rfl
  have po : PassesOwn (model P w) (cxf P w K mg base ["lot"] "lot_genus" stlot_genus f cdv A outer s H E).A (cxf P w K mg base ["lot"] "lot_genus" stlot_genus f cdv A outer s H E).env (cxf P w K mg base ["lot"] "lot_genus" stlot_genus f cdv A outer s H E).xe := passes_of rfl
  exact (gs_cons (gs_expr (ge_call (by exact ccheck_lot.cald) (hr.mono (by decide)) tk (by rfl) (gl_one (gv 0)) (by decide) (by rfl) (by rfl)) (by rfl))
 (gs_cons (gs_ret (ge_call (by exact cgenus_of_lot.cald) (hr.mono (by decide)) tk (by rfl) (gl_one (gv 0)) (by decide) (by rfl) (by rfl)))
 gs_nil))
/-! ### members_to -/
abbrev stmembers_to : Stmt := top 27
def Tmembers_to : SS :=
 (sSeq2 (sAsgT (.tup (.cons (.name 2) (.cons (.name 3) .nil))) (sTup (sCons (sIdx (sVar 0) (sCon (.int 0))) (sCons (sArgs Fapery_of (sCons (sVar 0) (sCons (sIdx (sVar 0) (sCon (.int 0))) sNil))) sNil))))
 (sSeq2 (sRet (sComp (sRng (sCons (sBin .Add (sVar 1) (sCon (.int 1))) sNil)) (.name 4) sYes (sCmp .LtE (sIdx (sVar 3) (sBin .Mod (sVar 4) (sVar 2))) (sVar 4)) (([("k", 4)] : List (Str × Nat)).map (·.2))))
 sSkip))
def Fmembers_to : List AV → Mem → Out AV := fnRun 2 5 Tmembers_to
theorem scmembers_to : FnScope ["lot", "most", "m", "least", "k"] ["lot", "most"] (defScope stmembers_to) := C8.fnScope_by rfl
theorem okmembers_to {P : Program} {w : World} {K : PySem.W.Frag} {mg : Str → Option Value} {base : Heap} {f : Addr} {fd : FuncData} (F : Fun K "members_to" "members_to" stmembers_to f fd) (B : Bn mg) (capery_of : CalD P w K mg base 2 "apery_of" Fapery_of) : FnOk P w K mg base (L2.CX P w) 3 f fd ["lot", "most"] (spOf ⟨K, mg⟩ Fmembers_to) := by
  refine fn_ok (N := ["lot", "most", "m", "least", "k"]) F scmembers_to (fun cdv A outer s H E hr => ?_)
  have hnd : (["lot", "most", "m", "least", "k"] : List Str).Nodup := scmembers_to.nd
  have hu : (A.deeper (envOfC "members_to" (defScope stmembers_to) s.heap.objs.size f cdv)).units + 65 < cLine := by have := hr.un; omega
  have tk : Takes (cxf P w K mg base ["lot", "most", "m", "least", "k"] "members_to" stmembers_to f cdv A outer s H E) (fun cls d _ H' => E cls d H') := takes_of rfl rfl rfl rfl
  have po : PassesOwn (model P w) (cxf P w K mg base ["lot", "most", "m", "least", "k"] "members_to" stmembers_to f cdv A outer s H E).A (cxf P w K mg base ["lot", "most", "m", "least", "k"] "members_to" stmembers_to f cdv A outer s H E).env (cxf P w K mg base ["lot", "most", "m", "least", "k"] "members_to" stmembers_to f cdv A outer s H E).xe := passes_of rfl
  exact (gs_cons (gs_asgT (t := (.tup (.cons (.name 2) (.cons (.name 3) .nil)))) (ge_tup (gl_more (ge_idx (fun _ _ => rfl) (gv 0) gn_int) (gl_one (ge_call (by exact capery_of.cald) (hr.mono (by decide)) tk (by rfl) (gl_more (gv 0) (gl_one (ge_idx (fun _ _ => rfl) (gv 0) gn_int))) (by decide) (by rfl) (by rfl))))) (gg_tup (n := 2) (by rfl) (gg_cons (gg_name (i := 2) hnd (by rfl) (by first | exact Or.inl rfl | exact Or.inr rfl) (by first | exact Or.inl rfl | exact Or.inr rfl)) (gg_cons (gg_name (i := 3) hnd (by rfl) (by first | exact Or.inl rfl | exact Or.inr rfl) (by first | exact Or.inl rfl | exact Or.inr rfl)) gg_nil (by rfl)) (by rfl)) (by rfl) (by rfl) (tg_lenS (tg_lenS tg_len0))) (by rfl) (by rfl) (by rfl))
 (gs_cons (gs_ret (ge_comp (own := [("k", 4)]) (t := (.name 4)) (by rfl) hnd (gi_rng1 (by rfl) B.range (by rfl) (gl_one (ge_bin (gv 1) gn_int)) (sl_cons sl_nil)) (blkOk_by (by rfl)) (fun _ _ _ _ _ => (gg_name (i := 4) hnd (by rfl) (by first | exact Or.inl rfl | exact Or.inr rfl) (by first | exact Or.inl rfl | exact Or.inr rfl))) (fun _ _ _ _ _ => gts_nil) (fun _ _ _ _ _ => (ge_cmp hu (by rfl) (ge_idx (fun _ _ => rfl) (gv 3) (ge_bin (gv 4) (gv 2))) (gv 4))) (fun _ => rfl) (by decide)))
 gs_nil))
/-! ### lot_gaps -/
abbrev stlot_gaps : Stmt := top 28
def Tlot_gaps : SS :=
 (sSeq2 (sExpr (sArgs Fcheck_lot (sCons (sVar 0) sNil)))
 (sSeq2 (sAsg 1 false (sArgs Fconductor_of_lot (sCons (sVar 0) sNil)))
 (sSeq2 (sIfS (sB (sCmp .Gt (sVar 1) (sCon (.int 3000))))
 (sSeq2 (sRaise "Refused" [("reason", .str "large")])
 sSkip)
 sSkip)
 (sSeq2 (sRet (sArgs tupleOp (sCons (sComp (sItm enumItm2 (sCons (sArgs Fmembers_to (sCons (sVar 0) (sCons (sVar 1) sNil))) sNil)) (.tup (.cons (.name 2) (.cons (.name 3) .nil))) (sNotB (sB (sVar 3))) (sVar 2) (([("k", 2), ("held", 3)] : List (Str × Nat)).map (·.2))) sNil)))
 sSkip))))
def Flot_gaps : List AV → Mem → Out AV := fnRun 1 4 Tlot_gaps
theorem sclot_gaps : FnScope ["lot", "c", "k", "held"] ["lot"] (defScope stlot_gaps) := C8.fnScope_by rfl
theorem oklot_gaps {P : Program} {w : World} {K : PySem.W.Frag} {mg : Str → Option Value} {base : Heap} {f CM CR fR : Addr} {fd : FuncData} (F : Fun K "lot_gaps" "lot_gaps" stlot_gaps f fd) (B : Bn mg) (C : Cs ⟨K, mg⟩) (T : Errs P K mg CM CR fR) (ccheck_lot : CalD P w K mg base 4 "check_lot" Fcheck_lot) (cconductor_of_lot : CalD P w K mg base 3 "conductor_of_lot" Fconductor_of_lot) (cmembers_to : CalD P w K mg base 3 "members_to" Fmembers_to) : FnOk P w K mg base (L2.CX P w) 5 f fd ["lot"] (spOf ⟨K, mg⟩ Flot_gaps) := by
  refine fn_ok (N := ["lot", "c", "k", "held"]) F sclot_gaps (fun cdv A outer s H E hr => ?_)
  have hnd : (["lot", "c", "k", "held"] : List Str).Nodup := sclot_gaps.nd
  have hu : (A.deeper (envOfC "lot_gaps" (defScope stlot_gaps) s.heap.objs.size f cdv)).units + 65 < cLine := by have := hr.un; omega
  have tk : Takes (cxf P w K mg base ["lot", "c", "k", "held"] "lot_gaps" stlot_gaps f cdv A outer s H E) (fun cls d _ H' => E cls d H') := takes_of rfl rfl rfl rfl
  have po : PassesOwn (model P w) (cxf P w K mg base ["lot", "c", "k", "held"] "lot_gaps" stlot_gaps f cdv A outer s H E).A (cxf P w K mg base ["lot", "c", "k", "held"] "lot_gaps" stlot_gaps f cdv A outer s H E).env (cxf P w K mg base ["lot", "c", "k", "held"] "lot_gaps" stlot_gaps f cdv A outer s H E).xe := passes_of rfl
  exact (gs_cons (gs_expr (ge_call (by exact ccheck_lot.cald) (hr.mono (by decide)) tk (by rfl) (gl_one (gv 0)) (by decide) (by rfl) (by rfl)) (by rfl))
 (gs_cons (gs_asg (i := 1) (m := false) hnd (by rfl) (by first | exact Or.inl rfl | exact Or.inr rfl) (ge_call (by exact cconductor_of_lot.cald) (hr.mono (by decide)) tk (by rfl) (gl_one (gv 0)) (by decide) (by rfl) (by rfl)) (by rfl) (.inl rfl))
 (gs_cons (gs_if (gb_cmp hu (by rfl) (gv 1) (ge_cst C.kMOST_CONDUCTOR (by rfl) (by decide)))
 (gs_cons (gs_rR T (by rfl) tk hr (by rfl))
 gs_nil)
 gs_nil)
 (gs_cons (gs_ret (gc_tuple (by rfl) (gl_one (ge_comp (own := [("k", 2), ("held", 3)]) (t := (.tup (.cons (.name 2) (.cons (.name 3) .nil)))) (by rfl) hnd (gi_enum2 (by rfl) B.enumerate (by rfl) (gl_one (ge_call (by exact cmembers_to.cald) (hr.mono (by decide)) tk (by rfl) (gl_more (gv 0) (gl_one (gv 1))) (by decide) (by rfl) (by rfl)))) (blkOk_by (by rfl)) (fun _ _ _ _ _ => (gg_tup (n := 2) (by rfl) (gg_cons (gg_name (i := 2) hnd (by rfl) (by first | exact Or.inl rfl | exact Or.inr rfl) (by first | exact Or.inl rfl | exact Or.inr rfl)) (gg_cons (gg_name (i := 3) hnd (by rfl) (by first | exact Or.inl rfl | exact Or.inr rfl) (by first | exact Or.inl rfl | exact Or.inr rfl)) gg_nil (by rfl)) (by rfl)) (by rfl) (by rfl) (tg_lenS (tg_lenS tg_len0)))) (fun _ _ _ _ _ => gts_one (gb_not (gb_truth (gv 3) (fun _ => rfl)))) (fun _ _ _ _ _ => (gv 2)) (fun _ => rfl) (by decide))) (by rfl) (by rfl) (by rfl) B.tuple))
 gs_nil))))
/-! ### _law_state -/
abbrev st_law_state : Stmt := top 30
def T_law_state : SS :=
 (sSeq2 (sAsg 1 false (sCon (.int 0)))
 (sSeq2 (sAsg 2 false (sCon (.int 1)))
 (sSeq2 (sFor (sSeq (sSlice (sVar 0) none (some (sCon (.int 63))))) (.name 3)
 (sSeq2 (sAsg 1 false (sBin .Add (sBin .Mult (sVar 1) (sCon (.int 1000003))) (sArgs absOp (sCons (sVar 3) sNil))))
 (sSeq2 (sAsg 2 false (sBin .Mod (sArgs intOp (sCons (sBin .Add (sBin .Mult (sVar 2) (sCon (.int 48271))) (sVar 3)) sNil)) (sCon (.int 2147483647))))
 sSkip)))
 (sSeq2 (sRet (sLst (sCons (sVar 1) (sCons (sVar 2) sNil))))
 sSkip))))
def F_law_state : List AV → Mem → Out AV := fnRun 1 4 T_law_state
theorem sc_law_state : FnScope ["script", "seed", "total", "cell"] ["script"] (defScope st_law_state) := C8.fnScope_by rfl
theorem ok_law_state {P : Program} {w : World} {K : PySem.W.Frag} {mg : Str → Option Value} {base : Heap} {f : Addr} {fd : FuncData} (F : Fun K "_law_state" "_law_state" st_law_state f fd) (B : Bn mg) : FnOk P w K mg base (L2.CX P w) 1 f fd ["script"] (spOf ⟨K, mg⟩ F_law_state) := by
  refine fn_ok (N := ["script", "seed", "total", "cell"]) F sc_law_state (fun cdv A outer s H E hr => ?_)
  have hnd : (["script", "seed", "total", "cell"] : List Str).Nodup := sc_law_state.nd
  have hu : (A.deeper (envOfC "_law_state" (defScope st_law_state) s.heap.objs.size f cdv)).units + 65 < cLine := by have := hr.un; omega
  have tk : Takes (cxf P w K mg base ["script", "seed", "total", "cell"] "_law_state" st_law_state f cdv A outer s H E) (fun cls d _ H' => E cls d H') := takes_of rfl rfl rfl rfl
  have po : PassesOwn (model P w) (cxf P w K mg base ["script", "seed", "total", "cell"] "_law_state" st_law_state f cdv A outer s H E).A (cxf P w K mg base ["script", "seed", "total", "cell"] "_law_state" st_law_state f cdv A outer s H E).env (cxf P w K mg base ["script", "seed", "total", "cell"] "_law_state" st_law_state f cdv A outer s H E).xe := passes_of rfl
  exact (gs_cons (gs_asg (i := 1) (m := false) hnd (by rfl) (by first | exact Or.inl rfl | exact Or.inr rfl) gn_int (by rfl) (.inl rfl))
 (gs_cons (gs_asg (i := 2) (m := false) hnd (by rfl) (by first | exact Or.inl rfl | exact Or.inr rfl) gn_int (by rfl) (.inl rfl))
 (gs_cons (gs_for (t := (.name 3)) po (by rfl) (gi_seq (gk_01 (gv 0) gn_int)) (gg_name (i := 3) hnd (by rfl) (by first | exact Or.inl rfl | exact Or.inr rfl) (by first | exact Or.inl rfl | exact Or.inr rfl))
 (gs_cons (gs_asg (i := 1) (m := false) hnd (by rfl) (by first | exact Or.inl rfl | exact Or.inr rfl) (ge_bin (ge_bin (gv 1) gn_int) (gc_abs (by rfl) (gl_one (gv 3)) (by rfl) (by rfl) (by rfl) B.abs)) (by rfl) (.inl rfl))
 (gs_cons (gs_asg (i := 2) (m := false) hnd (by rfl) (by first | exact Or.inl rfl | exact Or.inr rfl) (ge_bin (gc_int (by rfl) (gl_one (ge_bin (ge_bin (gv 2) gn_int) (gv 3))) (by rfl) (by rfl) (by rfl) B.int) gn_int) (by rfl) (.inl rfl))
 gs_nil)) (fun _ => rfl))
 (gs_cons (gs_ret (ge_lst (gl_more (gv 1) (gl_one (gv 2)))))
 gs_nil))))
/-! ### _law_take -/
abbrev st_law_take : Stmt := top 31
def T_law_take : SS :=
 (sSeq2 (sIfS (sB (sCmp .Gt (sIdx (sVar 0) (sCon (.int 0))) (sCon (.int 0))))
 (sSeq2 (sAsg 2 false (sBin .Mod (sArgs intOp (sCons (sIdx (sVar 0) (sCon (.int 0))) sNil)) (sVar 1)))
 (sSeq2 (sSetI (sVar 0) (sCon (.int 0)) (sBin .FloorDiv (sIdx (sVar 0) (sCon (.int 0))) (sVar 1)))
 (sSeq2 (sRet (sVar 2))
 sSkip)))
 sSkip)
 (sSeq2 (sSetI (sVar 0) (sCon (.int 1)) (sBin .Mod (sArgs intOp (sCons (sBin .Add (sBin .Mult (sIdx (sVar 0) (sCon (.int 1))) (sCon (.int 48271))) (sCon (.int 11))) sNil)) (sCon (.int 2147483647))))
 (sSeq2 (sRet (sBin .Mod (sArgs intOp (sCons (sBin .FloorDiv (sIdx (sVar 0) (sCon (.int 1))) (sCon (.int 7))) sNil)) (sVar 1)))
 sSkip)))
def F_law_take : List AV → Mem → Out AV := fnRun 2 3 T_law_take
theorem sc_law_take : FnScope ["state", "m", "value"] ["state", "m"] (defScope st_law_take) := C8.fnScope_by rfl
theorem ok_law_take {P : Program} {w : World} {K : PySem.W.Frag} {mg : Str → Option Value} {base : Heap} {f : Addr} {fd : FuncData} (F : Fun K "_law_take" "_law_take" st_law_take f fd) (B : Bn mg) : FnOk P w K mg base (L2.CX P w) 1 f fd ["state", "m"] (spOf ⟨K, mg⟩ F_law_take) := by
  refine fn_ok (N := ["state", "m", "value"]) F sc_law_take (fun cdv A outer s H E hr => ?_)
  have hnd : (["state", "m", "value"] : List Str).Nodup := sc_law_take.nd
  have hu : (A.deeper (envOfC "_law_take" (defScope st_law_take) s.heap.objs.size f cdv)).units + 65 < cLine := by have := hr.un; omega
  have tk : Takes (cxf P w K mg base ["state", "m", "value"] "_law_take" st_law_take f cdv A outer s H E) (fun cls d _ H' => E cls d H') := takes_of rfl rfl rfl rfl
  have po : PassesOwn (model P w) (cxf P w K mg base ["state", "m", "value"] "_law_take" st_law_take f cdv A outer s H E).A (cxf P w K mg base ["state", "m", "value"] "_law_take" st_law_take f cdv A outer s H E).env (cxf P w K mg base ["state", "m", "value"] "_law_take" st_law_take f cdv A outer s H E).xe := passes_of rfl
  exact (gs_cons (gs_if (gb_cmp hu (by rfl) (ge_idx (fun _ _ => rfl) (gv 0) gn_int) gn_int)
 (gs_cons (gs_asg (i := 2) (m := false) hnd (by rfl) (by first | exact Or.inl rfl | exact Or.inr rfl) (ge_bin (gc_int (by rfl) (gl_one (ge_idx (fun _ _ => rfl) (gv 0) gn_int)) (by rfl) (by rfl) (by rfl) B.int) (gv 1)) (by rfl) (.inl rfl))
 (gs_cons (gs_setI' (ge_bin (ge_idx (fun _ _ => rfl) (gv 0) gn_int) (gv 1)) (gv 0) gn_int (by rfl) (by rfl) (by rfl) (fun _ => rfl))
 (gs_cons (gs_ret (gv 2))
 gs_nil)))
 gs_nil)
 (gs_cons (gs_setI' (ge_bin (gc_int (by rfl) (gl_one (ge_bin (ge_bin (ge_idx (fun _ _ => rfl) (gv 0) gn_int) gn_int) gn_int)) (by rfl) (by rfl) (by rfl) B.int) gn_int) (gv 0) gn_int (by rfl) (by rfl) (by rfl) (fun _ => rfl))
 (gs_cons (gs_ret (ge_bin (gc_int (by rfl) (gl_one (ge_bin (ge_idx (fun _ _ => rfl) (gv 0) gn_int) gn_int)) (by rfl) (by rfl) (by rfl) B.int) (gv 1)))
 gs_nil)))
/-! ### _law_odd -/
abbrev st_law_odd : Stmt := top 32
def T_law_odd (self : List AV → Mem → Out AV) : SS :=
 (sSeq2 (sIfS (sB (sCmp .Eq (sVar 0) (sCon (.str "a word that nothing else is"))))
 (sSeq2 (sRet (sCon (.bl true)))
 sSkip)
 sSkip)
 (sSeq2 (sRet (sAnd (sIsi ["tuple", "list"] (sVar 0)) (sCmp .Gt (sArgs lenOp (sCons (sComp (sSeq (sVar 0)) (.name 1) (sB (sArgs self (sCons (sVar 1) sNil))) (sVar 1) (([("item", 1)] : List (Str × Nat)).map (·.2))) sNil)) (sCon (.int 0)))))
 sSkip))
def F_law_odd : Nat → List AV → Mem → Out AV
  | 0 => fun _ _ => .bad
  | n + 1 => fnRun 1 2 (T_law_odd (F_law_odd n))
theorem sc_law_odd : FnScope ["value", "item"] ["value"] (defScope st_law_odd) := C8.fnScope_by rfl
theorem ok_law_odd {P : Program} {w : World} {K : PySem.W.Frag} {mg : Str → Option Value} {base : Heap} {f : Addr} {fd : FuncData} (F : Fun K "_law_odd" "_law_odd" st_law_odd f fd) (B : Bn mg) (hm : mg "_law_odd" = some (.ref f)) (hkp : PySem.W.keepIn K (.ref f) = true) (hb : Binds K fd ["value"] []) : ∀ n : Nat, FnOk P w K mg base (L2.CX P w) (0 + n) f fd ["value"] (spOf ⟨K, mg⟩ (F_law_odd n))
  | 0 => ⟨fun vs H Q E ⟨W, Z, φ, M, avs, R, rs, h⟩ => h.elim, fun A outer s H args us vs Q E _ _ _ _ ⟨W, Z, φ, M, avs, R, rs, h⟩ => h.elim⟩
  | n + 1 => by
    have cs : CalD P w K mg base (0 + n) "_law_odd" (F_law_odd n) := ⟨f, fd, _, hm, hkp, hb, ok_law_odd F B hm hkp hb n⟩
    show FnOk P w K mg base (L2.CX P w) (0 + n + 1) f fd ["value"] (spOf ⟨K, mg⟩ (fnRun 1 2 (T_law_odd (F_law_odd n))))
    refine fn_ok (N := ["value", "item"]) F sc_law_odd (fun cdv A outer s H E hr => ?_)
    have hnd : (["value", "item"] : List Str).Nodup := sc_law_odd.nd
    have hu : (A.deeper (envOfC "_law_odd" (defScope st_law_odd) s.heap.objs.size f cdv)).units + 65 < cLine := by have := hr.un; omega
    have tk : Takes (cxf P w K mg base ["value", "item"] "_law_odd" st_law_odd f cdv A outer s H E) (fun cls d _ H' => E cls d H') := takes_of rfl rfl rfl rfl
    have po : PassesOwn (model P w) (cxf P w K mg base ["value", "item"] "_law_odd" st_law_odd f cdv A outer s H E).A (cxf P w K mg base ["value", "item"] "_law_odd" st_law_odd f cdv A outer s H E).env (cxf P w K mg base ["value", "item"] "_law_odd" st_law_odd f cdv A outer s H E).xe := passes_of rfl
    exact (gs_cons (gs_if (gb_cmp hu (by rfl) (gv 0) gn_str)
   (gs_cons (gs_ret gn_bl)
   gs_nil)
   gs_nil)
   (gs_cons (gs_ret (ge_and (ge_isiT (us := ["tuple", "list"]) (by rfl) B.isinstance (by decide) (by decide) (by exact (pa_cons (pe_bltn (v := .ty "tuple") (by rfl) B.tuple boot_tuple (by rfl)) (pa_cons (pe_bltn (v := .ty "list") (by rfl) B.list boot_list (by rfl)) pa_nil))) (gv 0) (by rfl) (by rfl) (by rfl)) (ge_one1 (ge_cmp hu (by rfl) (gc_len (by rfl) (gl_one (ge_comp (own := [("item", 1)]) (t := (.name 1)) (by rfl) hnd (gi_seq (gv 0)) (blkOk_by (by rfl)) (fun _ _ _ _ _ => (gg_name (i := 1) hnd (by rfl) (by first | exact Or.inl rfl | exact Or.inr rfl) (by first | exact Or.inl rfl | exact Or.inr rfl))) (fun _ _ _ _ _ => gts_one (gb_truth (ge_call (by exact cs.cald) hr takesW (by rfl) (gl_one (gv 1)) (by decide) (by rfl) (by rfl)) (fun _ => rfl))) (fun _ _ _ _ _ => (gv 1)) (fun _ => rfl) (by decide))) (by rfl) (by rfl) (by rfl) B.len) gn_int))))
   gs_nil))
/-! ### _law_honest -/
abbrev st_law_honest : Stmt := top 33
def T_law_honest : SS :=
 (sSeq2 (sRet (sIf (sB (sArgs (F_law_odd 8) (sCons (sVar 0) sNil))) (sCon (.str "odd")) (sVar 0)))
 sSkip)
def F_law_honest : List AV → Mem → Out AV := fnRun 1 1 T_law_honest
theorem sc_law_honest : FnScope ["value"] ["value"] (defScope st_law_honest) := C8.fnScope_by rfl
theorem ok_law_honest {P : Program} {w : World} {K : PySem.W.Frag} {mg : Str → Option Value} {base : Heap} {f : Addr} {fd : FuncData} (F : Fun K "_law_honest" "_law_honest" st_law_honest f fd) (c_law_odd : CalD P w K mg base 8 "_law_odd" (F_law_odd 8)) : FnOk P w K mg base (L2.CX P w) 9 f fd ["value"] (spOf ⟨K, mg⟩ F_law_honest) := by
  refine fn_ok (N := ["value"]) F sc_law_honest (fun cdv A outer s H E hr => ?_)
  have hnd : (["value"] : List Str).Nodup := sc_law_honest.nd
  have hu : (A.deeper (envOfC "_law_honest" (defScope st_law_honest) s.heap.objs.size f cdv)).units + 65 < cLine := by have := hr.un; omega
  have tk : Takes (cxf P w K mg base ["value"] "_law_honest" st_law_honest f cdv A outer s H E) (fun cls d _ H' => E cls d H') := takes_of rfl rfl rfl rfl
  have po : PassesOwn (model P w) (cxf P w K mg base ["value"] "_law_honest" st_law_honest f cdv A outer s H E).A (cxf P w K mg base ["value"] "_law_honest" st_law_honest f cdv A outer s H E).env (cxf P w K mg base ["value"] "_law_honest" st_law_honest f cdv A outer s H E).xe := passes_of rfl
  exact (gs_cons (gs_ret (ge_if (gb_truth (ge_call (by exact c_law_odd.cald) (hr.mono (by decide)) tk (by rfl) (gl_one (gv 0)) (by decide) (by rfl) (by rfl)) (fun _ => rfl)) gn_str (gv 0)))
 gs_nil)
/-! ### _law_says -/
abbrev st_law_says : Stmt := top 34
def T_law_says : SS :=
 (sSeq2 (sRet (sAnd (sIsi ["bool"] (sVar 0)) (sCmp .Eq (sVar 0) (sVar 1))))
 sSkip)
def F_law_says : List AV → Mem → Out AV := fnRun 2 2 T_law_says
theorem sc_law_says : FnScope ["value", "due"] ["value", "due"] (defScope st_law_says) := C8.fnScope_by rfl
theorem ok_law_says {P : Program} {w : World} {K : PySem.W.Frag} {mg : Str → Option Value} {base : Heap} {f : Addr} {fd : FuncData} (F : Fun K "_law_says" "_law_says" st_law_says f fd) (B : Bn mg) : FnOk P w K mg base (L2.CX P w) 1 f fd ["value", "due"] (spOf ⟨K, mg⟩ F_law_says) := by
  refine fn_ok (N := ["value", "due"]) F sc_law_says (fun cdv A outer s H E hr => ?_)
  have hnd : (["value", "due"] : List Str).Nodup := sc_law_says.nd
  have hu : (A.deeper (envOfC "_law_says" (defScope st_law_says) s.heap.objs.size f cdv)).units + 65 < cLine := by have := hr.un; omega
  have tk : Takes (cxf P w K mg base ["value", "due"] "_law_says" st_law_says f cdv A outer s H E) (fun cls d _ H' => E cls d H') := takes_of rfl rfl rfl rfl
  have po : PassesOwn (model P w) (cxf P w K mg base ["value", "due"] "_law_says" st_law_says f cdv A outer s H E).A (cxf P w K mg base ["value", "due"] "_law_says" st_law_says f cdv A outer s H E).env (cxf P w K mg base ["value", "due"] "_law_says" st_law_says f cdv A outer s H E).xe := passes_of rfl
  exact (gs_cons (gs_ret (ge_and (ge_isi1 (u := "bool") (by rfl) B.isinstance (by decide) (pe_bltn (by rfl) B.bool boot_bool (by rfl)) (gv 0) (by rfl) (by rfl) (by rfl)) (ge_one1 (ge_cmp hu (by rfl) (gv 0) (gv 1)))))
 gs_nil)
/-! ### _law_is_whole -/
abbrev st_law_is_whole : Stmt := top 35
def T_law_is_whole : SS :=
 (sSeq2 (sRet (sAnd (sIsi ["int"] (sVar 0)) (sNot (sIsi ["bool"] (sVar 0)))))
 sSkip)
def F_law_is_whole : List AV → Mem → Out AV := fnRun 1 1 T_law_is_whole
theorem sc_law_is_whole : FnScope ["value"] ["value"] (defScope st_law_is_whole) := C8.fnScope_by rfl
theorem ok_law_is_whole {P : Program} {w : World} {K : PySem.W.Frag} {mg : Str → Option Value} {base : Heap} {f : Addr} {fd : FuncData} (F : Fun K "_law_is_whole" "_law_is_whole" st_law_is_whole f fd) (B : Bn mg) : FnOk P w K mg base (L2.CX P w) 1 f fd ["value"] (spOf ⟨K, mg⟩ F_law_is_whole) := by
  refine fn_ok (N := ["value"]) F sc_law_is_whole (fun cdv A outer s H E hr => ?_)
  have hnd : (["value"] : List Str).Nodup := sc_law_is_whole.nd
  have hu : (A.deeper (envOfC "_law_is_whole" (defScope st_law_is_whole) s.heap.objs.size f cdv)).units + 65 < cLine := by have := hr.un; omega
  have tk : Takes (cxf P w K mg base ["value"] "_law_is_whole" st_law_is_whole f cdv A outer s H E) (fun cls d _ H' => E cls d H') := takes_of rfl rfl rfl rfl
  have po : PassesOwn (model P w) (cxf P w K mg base ["value"] "_law_is_whole" st_law_is_whole f cdv A outer s H E).A (cxf P w K mg base ["value"] "_law_is_whole" st_law_is_whole f cdv A outer s H E).env (cxf P w K mg base ["value"] "_law_is_whole" st_law_is_whole f cdv A outer s H E).xe := passes_of rfl
  exact (gs_cons (gs_ret (ge_and (ge_isi1 (u := "int") (by rfl) B.isinstance (by decide) (pe_bltn (by rfl) B.int boot_int (by rfl)) (gv 0) (by rfl) (by rfl) (by rfl)) (ge_one1 (ge_not (ge_isi1 (u := "bool") (by rfl) B.isinstance (by decide) (pe_bltn (by rfl) B.bool boot_bool (by rfl)) (gv 0) (by rfl) (by rfl) (by rfl))))))
 gs_nil)
/-! ### _law_same -/
abbrev st_law_same : Stmt := top 36
def T_law_same (self : List AV → Mem → Out AV) : SS :=
 (sSeq2 (sIfS (sB (sIsi ["tuple"] (sVar 1)))
 (sSeq2 (sRet (sAnd (sIsi ["tuple"] (sVar 0)) (sAnd (sCmp .Eq (sArgs lenOp (sCons (sVar 0) sNil)) (sArgs lenOp (sCons (sVar 1) sNil))) (sArgs allOp (sCons (sComp (sRng (sCons (sArgs lenOp (sCons (sVar 1) sNil)) sNil)) (.name 2) sYes (sArgs self (sCons (sIdx (sVar 0) (sVar 2)) (sCons (sIdx (sVar 1) (sVar 2)) sNil))) (([("k", 2)] : List (Str × Nat)).map (·.2))) sNil)))))
 sSkip)
 sSkip)
 (sSeq2 (sIfS (sB (sIsi ["str"] (sVar 1)))
 (sSeq2 (sRet (sAnd (sIsi ["str"] (sVar 0)) (sCmp .Eq (sVar 0) (sVar 1))))
 sSkip)
 sSkip)
 (sSeq2 (sIfS (sB (sCmp .Is (sVar 1) (sCon .non)))
 (sSeq2 (sRet (sCmp .Is (sVar 0) (sCon .non)))
 sSkip)
 sSkip)
 (sSeq2 (sRet (sAnd (sArgs F_law_is_whole (sCons (sVar 0) sNil)) (sCmp .Eq (sVar 0) (sVar 1))))
 sSkip))))
def F_law_same : Nat → List AV → Mem → Out AV
  | 0 => fun _ _ => .bad
  | n + 1 => fnRun 2 3 (T_law_same (F_law_same n))
theorem sc_law_same : FnScope ["one", "two", "k"] ["one", "two"] (defScope st_law_same) := C8.fnScope_by rfl
theorem ok_law_same {P : Program} {w : World} {K : PySem.W.Frag} {mg : Str → Option Value} {base : Heap} {f : Addr} {fd : FuncData} (F : Fun K "_law_same" "_law_same" st_law_same f fd) (B : Bn mg) (c_law_is_whole : CalD P w K mg base 1 "_law_is_whole" F_law_is_whole) (hm : mg "_law_same" = some (.ref f)) (hkp : PySem.W.keepIn K (.ref f) = true) (hb : Binds K fd ["one", "two"] []) : ∀ n : Nat, FnOk P w K mg base (L2.CX P w) (1 + n) f fd ["one", "two"] (spOf ⟨K, mg⟩ (F_law_same n))
  | 0 => ⟨fun vs H Q E ⟨W, Z, φ, M, avs, R, rs, h⟩ => h.elim, fun A outer s H args us vs Q E _ _ _ _ ⟨W, Z, φ, M, avs, R, rs, h⟩ => h.elim⟩
  | n + 1 => by
    have cs : CalD P w K mg base (1 + n) "_law_same" (F_law_same n) := ⟨f, fd, _, hm, hkp, hb, ok_law_same F B c_law_is_whole hm hkp hb n⟩
    show FnOk P w K mg base (L2.CX P w) (1 + n + 1) f fd ["one", "two"] (spOf ⟨K, mg⟩ (fnRun 2 3 (T_law_same (F_law_same n))))
    refine fn_ok (N := ["one", "two", "k"]) F sc_law_same (fun cdv A outer s H E hr => ?_)
    have hnd : (["one", "two", "k"] : List Str).Nodup := sc_law_same.nd
    have hu : (A.deeper (envOfC "_law_same" (defScope st_law_same) s.heap.objs.size f cdv)).units + 65 < cLine := by have := hr.un; omega
    have tk : Takes (cxf P w K mg base ["one", "two", "k"] "_law_same" st_law_same f cdv A outer s H E) (fun cls d _ H' => E cls d H') := takes_of rfl rfl rfl rfl
    have po : PassesOwn (model P w) (cxf P w K mg base ["one", "two", "k"] "_law_same" st_law_same f cdv A outer s H E).A (cxf P w K mg base ["one", "two", "k"] "_law_same" st_law_same f cdv A outer s H E).env (cxf P w K mg base ["one", "two", "k"] "_law_same" st_law_same f cdv A outer s H E).xe := passes_of rfl
    exact (gs_cons (gs_if (gb_truth (ge_isi1 (u := "tuple") (by rfl) B.isinstance (by decide) (pe_bltn (by rfl) B.tuple boot_tuple (by rfl)) (gv 1) (by rfl) (by rfl) (by rfl)) (fun _ => rfl))
   (gs_cons (gs_ret (ge_and (ge_isi1 (u := "tuple") (by rfl) B.isinstance (by decide) (pe_bltn (by rfl) B.tuple boot_tuple (by rfl)) (gv 0) (by rfl) (by rfl) (by rfl)) (ge_and (ge_cmp hu (by rfl) (gc_len (by rfl) (gl_one (gv 0)) (by rfl) (by rfl) (by rfl) B.len) (gc_len (by rfl) (gl_one (gv 1)) (by rfl) (by rfl) (by rfl) B.len)) (ge_one1 (gc_all (by rfl) (gl_one (ge_comp (own := [("k", 2)]) (t := (.name 2)) (by rfl) hnd (gi_rng1 (by rfl) B.range (by rfl) (gl_one (gc_len (by rfl) (gl_one (gv 1)) (by rfl) (by rfl) (by rfl) B.len)) (sl_cons sl_nil)) (blkOk_by (by rfl)) (fun _ _ _ _ _ => (gg_name (i := 2) hnd (by rfl) (by first | exact Or.inl rfl | exact Or.inr rfl) (by first | exact Or.inl rfl | exact Or.inr rfl))) (fun _ _ _ _ _ => gts_nil) (fun _ _ _ _ _ => (ge_call (by exact cs.cald) hr takesW (by rfl) (gl_more (ge_idx (fun _ _ => rfl) (gv 0) (gv 2)) (gl_one (ge_idx (fun _ _ => rfl) (gv 1) (gv 2)))) (by decide) (by rfl) (by rfl))) (fun _ => rfl) (by decide))) (by rfl) (by rfl) (by rfl) B.all)))))
   gs_nil)
   gs_nil)
   (gs_cons (gs_if (gb_truth (ge_isi1 (u := "str") (by rfl) B.isinstance (by decide) (pe_bltn (by rfl) B.str boot_str (by rfl)) (gv 1) (by rfl) (by rfl) (by rfl)) (fun _ => rfl))
   (gs_cons (gs_ret (ge_and (ge_isi1 (u := "str") (by rfl) B.isinstance (by decide) (pe_bltn (by rfl) B.str boot_str (by rfl)) (gv 0) (by rfl) (by rfl) (by rfl)) (ge_one1 (ge_cmp hu (by rfl) (gv 0) (gv 1)))))
   gs_nil)
   gs_nil)
   (gs_cons (gs_if (gb_cmp hu (by rfl) (gv 1) gn_non)
   (gs_cons (gs_ret (ge_cmp hu (by rfl) (gv 0) gn_non))
   gs_nil)
   gs_nil)
   (gs_cons (gs_ret (ge_and (ge_call (by exact c_law_is_whole.cald) (hr.mono (by omega)) tk (by rfl) (gl_one (gv 0)) (by decide) (by rfl) (by rfl)) (ge_one1 (ge_cmp hu (by rfl) (gv 0) (gv 1)))))
   gs_nil))))
/-! ### _law_gcd -/
abbrev st_law_gcd : Stmt := top 37
def T_law_gcd : SS :=
 (sSeq2 (sAsg 1 false (sCon (.int 0)))
 (sSeq2 (sFor (sSeq (sVar 0)) (.name 2)
 (sSeq2 (sPar2 3 4 false false (sVar 1) (sArgs absOp (sCons (sVar 2) sNil)))
 (sSeq2 (sWhile (sB (sCmp .NotEq (sVar 4) (sCon (.int 0))))
 (sSeq2 (sPar2 3 4 false false (sVar 4) (sBin .Mod (sArgs intOp (sCons (sVar 3) sNil)) (sVar 4)))
 sSkip))
 (sSeq2 (sAsg 1 false (sVar 3))
 sSkip))))
 (sSeq2 (sRet (sVar 1))
 sSkip)))
def F_law_gcd : List AV → Mem → Out AV := fnRun 1 5 T_law_gcd
theorem sc_law_gcd : FnScope ["items", "found", "x", "a", "b"] ["items"] (defScope st_law_gcd) := C8.fnScope_by rfl
theorem ok_law_gcd {P : Program} {w : World} {K : PySem.W.Frag} {mg : Str → Option Value} {base : Heap} {f : Addr} {fd : FuncData} (F : Fun K "_law_gcd" "_law_gcd" st_law_gcd f fd) (B : Bn mg) : FnOk P w K mg base (L2.CX P w) 1 f fd ["items"] (spOf ⟨K, mg⟩ F_law_gcd) := by
  refine fn_ok (N := ["items", "found", "x", "a", "b"]) F sc_law_gcd (fun cdv A outer s H E hr => ?_)
  have hnd : (["items", "found", "x", "a", "b"] : List Str).Nodup := sc_law_gcd.nd
  have hu : (A.deeper (envOfC "_law_gcd" (defScope st_law_gcd) s.heap.objs.size f cdv)).units + 65 < cLine := by have := hr.un; omega
  have tk : Takes (cxf P w K mg base ["items", "found", "x", "a", "b"] "_law_gcd" st_law_gcd f cdv A outer s H E) (fun cls d _ H' => E cls d H') := takes_of rfl rfl rfl rfl
  have po : PassesOwn (model P w) (cxf P w K mg base ["items", "found", "x", "a", "b"] "_law_gcd" st_law_gcd f cdv A outer s H E).A (cxf P w K mg base ["items", "found", "x", "a", "b"] "_law_gcd" st_law_gcd f cdv A outer s H E).env (cxf P w K mg base ["items", "found", "x", "a", "b"] "_law_gcd" st_law_gcd f cdv A outer s H E).xe := passes_of rfl
  exact (gs_cons (gs_asg (i := 1) (m := false) hnd (by rfl) (by first | exact Or.inl rfl | exact Or.inr rfl) gn_int (by rfl) (.inl rfl))
 (gs_cons (gs_for (t := (.name 2)) po (by rfl) (gi_seq (gv 0)) (gg_name (i := 2) hnd (by rfl) (by first | exact Or.inl rfl | exact Or.inr rfl) (by first | exact Or.inl rfl | exact Or.inr rfl))
 (gs_cons (gs_par2 (i := 3) (j := 4) (m := false) (n := false) (by rfl) hnd (by rfl) (by rfl) (by decide) (by rfl) (by rfl) (gv 1) (gc_abs (by rfl) (gl_one (gv 2)) (by rfl) (by rfl) (by rfl) B.abs) (by rfl) (by rfl) (by rfl) (by rfl))
 (gs_cons (gs_while po (gb_cmp hu (by rfl) (gv 4) gn_int)
 (gs_cons (gs_par2 (i := 3) (j := 4) (m := false) (n := false) (by rfl) hnd (by rfl) (by rfl) (by decide) (by rfl) (by rfl) (gv 4) (ge_bin (gc_int (by rfl) (gl_one (gv 3)) (by rfl) (by rfl) (by rfl) B.int) (gv 4)) (by rfl) (by rfl) (by rfl) (by rfl))
 gs_nil))
 (gs_cons (gs_asg (i := 1) (m := false) hnd (by rfl) (by first | exact Or.inl rfl | exact Or.inr rfl) (gv 3) (by rfl) (.inl rfl))
 gs_nil))) (fun _ => rfl))
 (gs_cons (gs_ret (gv 1))
 gs_nil)))
/-! ### _law_lot_sums -/
abbrev st_law_lot_sums : Stmt := top 38
def T_law_lot_sums : SS :=
 (sSeq2 (sAsg 2 true (sBin .Add (sLst (sCons (sCon (.bl true)) sNil)) (sBin .Mult (sLst (sCons (sCon (.bl false)) sNil)) (sVar 1))))
 (sSeq2 (sFor (sRng (sCons (sCon (.int 1)) (sCons (sBin .Add (sVar 1) (sCon (.int 1))) sNil))) (.name 3)
 (sSeq2 (sSetI (sVar 2) (sVar 3) (sArgs anyOp (sCons (sComp (sSeq (sVar 0)) (.name 4) sYes (sAnd (sCmp .LtE (sVar 4) (sVar 3)) (sIdx (sVar 2) (sBin .Sub (sVar 3) (sVar 4)))) (([("g", 4)] : List (Str × Nat)).map (·.2))) sNil)))
 sSkip))
 (sSeq2 (sRet (sVar 2))
 sSkip)))
def F_law_lot_sums : List AV → Mem → Out AV := fnRun 2 5 T_law_lot_sums
theorem sc_law_lot_sums : FnScope ["lot", "most", "found", "k", "g"] ["lot", "most"] (defScope st_law_lot_sums) := C8.fnScope_by rfl
theorem ok_law_lot_sums {P : Program} {w : World} {K : PySem.W.Frag} {mg : Str → Option Value} {base : Heap} {f : Addr} {fd : FuncData} (F : Fun K "_law_lot_sums" "_law_lot_sums" st_law_lot_sums f fd) (B : Bn mg) : FnOk P w K mg base (L2.CX P w) 1 f fd ["lot", "most"] (spOf ⟨K, mg⟩ F_law_lot_sums) := by
  refine fn_ok (N := ["lot", "most", "found", "k", "g"]) F sc_law_lot_sums (fun cdv A outer s H E hr => ?_)
  have hnd : (["lot", "most", "found", "k", "g"] : List Str).Nodup := sc_law_lot_sums.nd
  have hu : (A.deeper (envOfC "_law_lot_sums" (defScope st_law_lot_sums) s.heap.objs.size f cdv)).units + 65 < cLine := by have := hr.un; omega
  have tk : Takes (cxf P w K mg base ["lot", "most", "found", "k", "g"] "_law_lot_sums" st_law_lot_sums f cdv A outer s H E) (fun cls d _ H' => E cls d H') := takes_of rfl rfl rfl rfl
  have po : PassesOwn (model P w) (cxf P w K mg base ["lot", "most", "found", "k", "g"] "_law_lot_sums" st_law_lot_sums f cdv A outer s H E).A (cxf P w K mg base ["lot", "most", "found", "k", "g"] "_law_lot_sums" st_law_lot_sums f cdv A outer s H E).env (cxf P w K mg base ["lot", "most", "found", "k", "g"] "_law_lot_sums" st_law_lot_sums f cdv A outer s H E).xe := passes_of rfl
  exact (gs_cons (gs_asg (i := 2) (m := true) hnd (by rfl) (by first | exact Or.inl rfl | exact Or.inr rfl) (ge_bin (ge_lst (gl_one gn_bl)) (ge_bin (ge_lst (gl_one gn_bl)) (gv 1))) (by rfl) (.inl rfl))
 (gs_cons (gs_for (t := (.name 3)) po (by rfl) (gi_rng2 (by rfl) B.range (by rfl) (by rfl) (gl_more gn_int (gl_one (ge_bin (gv 1) gn_int))) (sl_cons (sl_cons sl_nil))) (gg_name (i := 3) hnd (by rfl) (by first | exact Or.inl rfl | exact Or.inr rfl) (by first | exact Or.inl rfl | exact Or.inr rfl))
 (gs_cons (gs_setI' (gc_any (by rfl) (gl_one (ge_comp (own := [("g", 4)]) (t := (.name 4)) (by rfl) hnd (gi_seq (gv 0)) (blkOk_by (by rfl)) (fun _ _ _ _ _ => (gg_name (i := 4) hnd (by rfl) (by first | exact Or.inl rfl | exact Or.inr rfl) (by first | exact Or.inl rfl | exact Or.inr rfl))) (fun _ _ _ _ _ => gts_nil) (fun _ _ _ _ _ => (ge_and (ge_cmp hu (by rfl) (gv 4) (gv 3)) (ge_one1 (ge_idx (fun _ _ => rfl) (gv 2) (ge_bin (gv 3) (gv 4)))))) (fun _ => rfl) (by decide))) (by rfl) (by rfl) (by rfl) B.any) (gv 2) (gv 3) (by rfl) (by rfl) (by rfl) (fun _ => rfl))
 gs_nil) (fun _ => rfl))
 (gs_cons (gs_ret (gv 2))
 gs_nil)))
/-! ### _law_least -/
abbrev st_law_least : Stmt := top 39
def T_law_least : SS :=
 (sSeq2 (sPar2 2 3 true true (sLst sNil) (sBin .Add (sLst (sCons (sCon (.bl true)) sNil)) (sBin .Mult (sLst (sCons (sCon (.bl false)) sNil)) (sArgs maxOp2 (sCons (sVar 0) sNil)))))
 (sSeq2 (sFor (sSeq (sSortSet (sVar 0))) (.name 1)
 (sSeq2 (sIfS (sNotB (sB (sIdx (sVar 3) (sVar 1))))
 (sSeq2 (sExpr (sMeth mAppend (sVar 2) (sCons (sVar 1) sNil)))
 (sSeq2 (sFor (sRng (sCons (sVar 1) (sCons (sArgs lenOp (sCons (sVar 3) sNil)) sNil))) (.name 4)
 (sSeq2 (sSetI (sVar 3) (sVar 4) (sOr (sIdx (sVar 3) (sVar 4)) (sIdx (sVar 3) (sBin .Sub (sVar 4) (sVar 1)))))
 sSkip))
 sSkip))
 sSkip)
 sSkip))
 (sSeq2 (sRet (sArgs tupleOp (sCons (sVar 2) sNil)))
 sSkip)))
def F_law_least : List AV → Mem → Out AV := fnRun 1 5 T_law_least
theorem sc_law_least : FnScope ["items", "x", "found", "held", "k"] ["items"] (defScope st_law_least) := C8.fnScope_by rfl
theorem ok_law_least {P : Program} {w : World} {K : PySem.W.Frag} {mg : Str → Option Value} {base : Heap} {f : Addr} {fd : FuncData} (F : Fun K "_law_least" "_law_least" st_law_least f fd) (B : Bn mg) : FnOk P w K mg base (L2.CX P w) 1 f fd ["items"] (spOf ⟨K, mg⟩ F_law_least) := by
  refine fn_ok (N := ["items", "x", "found", "held", "k"]) F sc_law_least (fun cdv A outer s H E hr => ?_)
  have hnd : (["items", "x", "found", "held", "k"] : List Str).Nodup := sc_law_least.nd
  have hu : (A.deeper (envOfC "_law_least" (defScope st_law_least) s.heap.objs.size f cdv)).units + 65 < cLine := by have := hr.un; omega
  have tk : Takes (cxf P w K mg base ["items", "x", "found", "held", "k"] "_law_least" st_law_least f cdv A outer s H E) (fun cls d _ H' => E cls d H') := takes_of rfl rfl rfl rfl
  have po : PassesOwn (model P w) (cxf P w K mg base ["items", "x", "found", "held", "k"] "_law_least" st_law_least f cdv A outer s H E).A (cxf P w K mg base ["items", "x", "found", "held", "k"] "_law_least" st_law_least f cdv A outer s H E).env (cxf P w K mg base ["items", "x", "found", "held", "k"] "_law_least" st_law_least f cdv A outer s H E).xe := passes_of rfl
  exact (gs_cons (gs_par2 (i := 2) (j := 3) (m := true) (n := true) (by rfl) hnd (by rfl) (by rfl) (by decide) (by rfl) (by rfl) (ge_lst gl_nil) (ge_bin (ge_lst (gl_one gn_bl)) (ge_bin (ge_lst (gl_one gn_bl)) (gc_max2 hu (by rfl) (gl_one (gv 0)) (by rfl) (by rfl) (by rfl) B.max))) (by rfl) (by rfl) (by rfl) (by rfl))
 (gs_cons (gs_for (t := (.name 1)) po (by rfl) (gi_seq (ge_sortset (by rfl) (gv 0) (by rfl) B.sorted (by rfl) B.set (by rfl) (by rfl))) (gg_name (i := 1) hnd (by rfl) (by first | exact Or.inl rfl | exact Or.inr rfl) (by first | exact Or.inl rfl | exact Or.inr rfl))
 (gs_cons (gs_if (gb_not (gb_truth (ge_idx (fun _ _ => rfl) (gv 3) (gv 1)) (fun _ => rfl)))
 (gs_cons (gs_expr (gm_append (gv 2) (gl_one (gv 1)) (by rfl) (by rfl) (by rfl) (by rfl) (by rfl)) (by rfl))
 (gs_cons (gs_for (t := (.name 4)) po (by rfl) (gi_rng2 (by rfl) B.range (by rfl) (by rfl) (gl_more (gv 1) (gl_one (gc_len (by rfl) (gl_one (gv 3)) (by rfl) (by rfl) (by rfl) B.len))) (sl_cons (sl_cons sl_nil))) (gg_name (i := 4) hnd (by rfl) (by first | exact Or.inl rfl | exact Or.inr rfl) (by first | exact Or.inl rfl | exact Or.inr rfl))
 (gs_cons (gs_setI' (ge_or (ge_idx (fun _ _ => rfl) (gv 3) (gv 4)) (ge_one1 (ge_idx (fun _ _ => rfl) (gv 3) (ge_bin (gv 4) (gv 1))))) (gv 3) (gv 4) (by rfl) (by rfl) (by rfl) (fun _ => rfl))
 gs_nil) (fun _ => rfl))
 gs_nil))
 gs_nil)
 gs_nil) (fun _ => rfl))
 (gs_cons (gs_ret (gc_tuple (by rfl) (gl_one (gv 2)) (by rfl) (by rfl) (by rfl) B.tuple))
 gs_nil)))
/-! ### _law_apery -/
abbrev st_law_apery : Stmt := top 40
def T_law_apery : SS :=
 (sSeq2 (sAsg 2 true (sBin .Add (sLst (sCons (sCon (.int 0)) sNil)) (sBin .Mult (sLst (sCons (sCon .non) sNil)) (sBin .Sub (sVar 1) (sCon (.int 1))))))
 (sSeq2 (sFor (sSeq (sVar 0)) (.name 3)
 (sSeq2 (sAsg 4 false (sArgs F_law_gcd (sCons (sLst (sCons (sVar 3) (sCons (sVar 1) sNil))) sNil)))
 (sSeq2 (sFor (sRng (sCons (sVar 4) sNil)) (.name 5)
 (sSeq2 (sAsg 6 false (sVar 5))
 (sSeq2 (sFor (sRng (sCons (sBin .Mult (sCon (.int 2)) (sBin .FloorDiv (sVar 1) (sVar 4))) sNil)) (.name 7)
 (sSeq2 (sAsg 8 false (sBin .Mod (sArgs intOp (sCons (sBin .Add (sVar 6) (sVar 3)) sNil)) (sVar 1)))
 (sSeq2 (sIfS (sAndB (sB (sCmp .IsNot (sIdx (sVar 2) (sVar 6)) (sCon .non))) (sOrB (sB (sCmp .Is (sIdx (sVar 2) (sVar 8)) (sCon .non))) (sB (sCmp .Gt (sIdx (sVar 2) (sVar 8)) (sBin .Add (sIdx (sVar 2) (sVar 6)) (sVar 3))))))
 (sSeq2 (sSetI (sVar 2) (sVar 8) (sBin .Add (sIdx (sVar 2) (sVar 6)) (sVar 3)))
 sSkip)
 sSkip)
 (sSeq2 (sAsg 6 false (sVar 8))
 sSkip))))
 sSkip)))
 sSkip)))
 (sSeq2 (sRet (sVar 2))
 sSkip)))
def F_law_apery : List AV → Mem → Out AV := fnRun 2 9 T_law_apery
theorem sc_law_apery : FnScope ["lot", "m", "found", "g", "d", "start", "r", "step", "s"] ["lot", "m"] (defScope st_law_apery) := C8.fnScope_by rfl
theorem ok_law_apery {P : Program} {w : World} {K : PySem.W.Frag} {mg : Str → Option Value} {base : Heap} {f : Addr} {fd : FuncData} (F : Fun K "_law_apery" "_law_apery" st_law_apery f fd) (B : Bn mg) (c_law_gcd : CalD P w K mg base 1 "_law_gcd" F_law_gcd) : FnOk P w K mg base (L2.CX P w) 2 f fd ["lot", "m"] (spOf ⟨K, mg⟩ F_law_apery) := by
  refine fn_ok (N := ["lot", "m", "found", "g", "d", "start", "r", "step", "s"]) F sc_law_apery (fun cdv A outer s H E hr => ?_)
  have hnd : (["lot", "m", "found", "g", "d", "start", "r", "step", "s"] : List Str).Nodup := sc_law_apery.nd
  have hu : (A.deeper (envOfC "_law_apery" (defScope st_law_apery) s.heap.objs.size f cdv)).units + 65 < cLine := by have := hr.un; omega
  have tk : Takes (cxf P w K mg base ["lot", "m", "found", "g", "d", "start", "r", "step", "s"] "_law_apery" st_law_apery f cdv A outer s H E) (fun cls d _ H' => E cls d H') := takes_of rfl rfl rfl rfl
  have po : PassesOwn (model P w) (cxf P w K mg base ["lot", "m", "found", "g", "d", "start", "r", "step", "s"] "_law_apery" st_law_apery f cdv A outer s H E).A (cxf P w K mg base ["lot", "m", "found", "g", "d", "start", "r", "step", "s"] "_law_apery" st_law_apery f cdv A outer s H E).env (cxf P w K mg base ["lot", "m", "found", "g", "d", "start", "r", "step", "s"] "_law_apery" st_law_apery f cdv A outer s H E).xe := passes_of rfl
  exact (gs_cons (gs_asg (i := 2) (m := true) hnd (by rfl) (by first | exact Or.inl rfl | exact Or.inr rfl) (ge_bin (ge_lst (gl_one gn_int)) (ge_bin (ge_lst (gl_one gn_non)) (ge_bin (gv 1) gn_int))) (by rfl) (.inl rfl))
 (gs_cons (gs_for (t := (.name 3)) po (by rfl) (gi_seq (gv 0)) (gg_name (i := 3) hnd (by rfl) (by first | exact Or.inl rfl | exact Or.inr rfl) (by first | exact Or.inl rfl | exact Or.inr rfl))
 (gs_cons (gs_asg (i := 4) (m := false) hnd (by rfl) (by first | exact Or.inl rfl | exact Or.inr rfl) (ge_call (by exact c_law_gcd.cald) (hr.mono (by decide)) tk (by rfl) (gl_one (ge_lst (gl_more (gv 3) (gl_one (gv 1))))) (by decide) (by rfl) (by rfl)) (by rfl) (.inl rfl))
 (gs_cons (gs_for (t := (.name 5)) po (by rfl) (gi_rng1 (by rfl) B.range (by rfl) (gl_one (gv 4)) (sl_cons sl_nil)) (gg_name (i := 5) hnd (by rfl) (by first | exact Or.inl rfl | exact Or.inr rfl) (by first | exact Or.inl rfl | exact Or.inr rfl))
 (gs_cons (gs_asg (i := 6) (m := false) hnd (by rfl) (by first | exact Or.inl rfl | exact Or.inr rfl) (gv 5) (by rfl) (.inl rfl))
 (gs_cons (gs_for (t := (.name 7)) po (by rfl) (gi_rng1 (by rfl) B.range (by rfl) (gl_one (ge_bin gn_int (ge_bin (gv 1) (gv 4)))) (sl_cons sl_nil)) (gg_name (i := 7) hnd (by rfl) (by first | exact Or.inl rfl | exact Or.inr rfl) (by first | exact Or.inl rfl | exact Or.inr rfl))
 (gs_cons (gs_asg (i := 8) (m := false) hnd (by rfl) (by first | exact Or.inl rfl | exact Or.inr rfl) (ge_bin (gc_int (by rfl) (gl_one (ge_bin (gv 6) (gv 3))) (by rfl) (by rfl) (by rfl) B.int) (gv 1)) (by rfl) (.inl rfl))
 (gs_cons (gs_if (gb_and (gb_cmp hu (by rfl) (ge_idx (fun _ _ => rfl) (gv 2) (gv 6)) gn_non) (gb_and1 (gb_or (gb_cmp hu (by rfl) (ge_idx (fun _ _ => rfl) (gv 2) (gv 8)) gn_non) (gb_or1 (gb_cmp hu (by rfl) (ge_idx (fun _ _ => rfl) (gv 2) (gv 8)) (ge_bin (ge_idx (fun _ _ => rfl) (gv 2) (gv 6)) (gv 3))))).pt)).pt
 (gs_cons (gs_setI' (ge_bin (ge_idx (fun _ _ => rfl) (gv 2) (gv 6)) (gv 3)) (gv 2) (gv 8) (by rfl) (by rfl) (by rfl) (fun _ => rfl))
 gs_nil)
 gs_nil)
 (gs_cons (gs_asg (i := 6) (m := false) hnd (by rfl) (by first | exact Or.inl rfl | exact Or.inr rfl) (gv 8) (by rfl) (.inl rfl))
 gs_nil))) (fun _ => rfl))
 gs_nil)) (fun _ => rfl))
 gs_nil)) (fun _ => rfl))
 (gs_cons (gs_ret (gv 2))
 gs_nil)))
/-! ### _law_lot_conductor -/
abbrev st_law_lot_conductor : Stmt := top 41
def T_law_lot_conductor : SS :=
 (sSeq2 (sRet (sBin .Add (sBin .Sub (sArgs maxOp2 (sCons (sArgs F_law_apery (sCons (sVar 0) (sCons (sIdx (sVar 0) (sCon (.int 0))) sNil))) sNil)) (sIdx (sVar 0) (sCon (.int 0)))) (sCon (.int 1))))
 sSkip)
def F_law_lot_conductor : List AV → Mem → Out AV := fnRun 1 1 T_law_lot_conductor
theorem sc_law_lot_conductor : FnScope ["lot"] ["lot"] (defScope st_law_lot_conductor) := C8.fnScope_by rfl
theorem ok_law_lot_conductor {P : Program} {w : World} {K : PySem.W.Frag} {mg : Str → Option Value} {base : Heap} {f : Addr} {fd : FuncData} (F : Fun K "_law_lot_conductor" "_law_lot_conductor" st_law_lot_conductor f fd) (B : Bn mg) (c_law_apery : CalD P w K mg base 2 "_law_apery" F_law_apery) : FnOk P w K mg base (L2.CX P w) 3 f fd ["lot"] (spOf ⟨K, mg⟩ F_law_lot_conductor) := by
  refine fn_ok (N := ["lot"]) F sc_law_lot_conductor (fun cdv A outer s H E hr => ?_)
  have hnd : (["lot"] : List Str).Nodup := sc_law_lot_conductor.nd
  have hu : (A.deeper (envOfC "_law_lot_conductor" (defScope st_law_lot_conductor) s.heap.objs.size f cdv)).units + 65 < cLine := by have := hr.un; omega
  have tk : Takes (cxf P w K mg base ["lot"] "_law_lot_conductor" st_law_lot_conductor f cdv A outer s H E) (fun cls d _ H' => E cls d H') := takes_of rfl rfl rfl rfl
  have po : PassesOwn (model P w) (cxf P w K mg base ["lot"] "_law_lot_conductor" st_law_lot_conductor f cdv A outer s H E).A (cxf P w K mg base ["lot"] "_law_lot_conductor" st_law_lot_conductor f cdv A outer s H E).env (cxf P w K mg base ["lot"] "_law_lot_conductor" st_law_lot_conductor f cdv A outer s H E).xe := passes_of rfl
  exact (gs_cons (gs_ret (ge_bin (ge_bin (gc_max2 hu (by rfl) (gl_one (ge_call (by exact c_law_apery.cald) (hr.mono (by decide)) tk (by rfl) (gl_more (gv 0) (gl_one (ge_idx (fun _ _ => rfl) (gv 0) gn_int))) (by decide) (by rfl) (by rfl))) (by rfl) (by rfl) (by rfl) B.max) (ge_idx (fun _ _ => rfl) (gv 0) gn_int)) gn_int))
 gs_nil)
/-! ### _law_is_lot -/
abbrev st_law_is_lot : Stmt := top 42
def T_law_is_lot : SS :=
 (sSeq2 (sIfS (sOrB (sNotB (sB (sIsi ["tuple"] (sVar 0)))) (sOrB (sNotB (sB (sChain .LtE .LtE (sCon (.int 1)) (sArgs lenOp (sCons (sVar 0) sNil)) (sCon (.int 12))))) (sNotB (sB (sArgs allOp (sCons (sComp (sSeq (sVar 0)) (.name 1) sYes (sAnd (sArgs F_law_is_whole (sCons (sVar 1) sNil)) (sChain .LtE .LtE (sCon (.int 1)) (sVar 1) (sCon (.int 1000)))) (([("x", 1)] : List (Str × Nat)).map (·.2))) sNil))))))
 (sSeq2 (sRet (sCon (.bl false)))
 sSkip)
 sSkip)
 (sSeq2 (sRet (sAnd (sCmp .Eq (sArgs listOp (sCons (sVar 0) sNil)) (sSortSet (sVar 0))) (sAnd (sCmp .Eq (sArgs F_law_gcd (sCons (sVar 0) sNil)) (sCon (.int 1))) (sCmp .Eq (sArgs F_law_least (sCons (sVar 0) sNil)) (sVar 0)))))
 sSkip))
def F_law_is_lot : List AV → Mem → Out AV := fnRun 1 2 T_law_is_lot
theorem sc_law_is_lot : FnScope ["value", "x"] ["value"] (defScope st_law_is_lot) := C8.fnScope_by rfl
theorem ok_law_is_lot {P : Program} {w : World} {K : PySem.W.Frag} {mg : Str → Option Value} {base : Heap} {f : Addr} {fd : FuncData} (F : Fun K "_law_is_lot" "_law_is_lot" st_law_is_lot f fd) (B : Bn mg) (c_law_gcd : CalD P w K mg base 1 "_law_gcd" F_law_gcd) (c_law_is_whole : CalD P w K mg base 1 "_law_is_whole" F_law_is_whole) (c_law_least : CalD P w K mg base 1 "_law_least" F_law_least) : FnOk P w K mg base (L2.CX P w) 2 f fd ["value"] (spOf ⟨K, mg⟩ F_law_is_lot) := by
  refine fn_ok (N := ["value", "x"]) F sc_law_is_lot (fun cdv A outer s H E hr => ?_)
  have hnd : (["value", "x"] : List Str).Nodup := sc_law_is_lot.nd
  have hu : (A.deeper (envOfC "_law_is_lot" (defScope st_law_is_lot) s.heap.objs.size f cdv)).units + 65 < cLine := by have := hr.un; omega
  have tk : Takes (cxf P w K mg base ["value", "x"] "_law_is_lot" st_law_is_lot f cdv A outer s H E) (fun cls d _ H' => E cls d H') := takes_of rfl rfl rfl rfl
  have po : PassesOwn (model P w) (cxf P w K mg base ["value", "x"] "_law_is_lot" st_law_is_lot f cdv A outer s H E).A (cxf P w K mg base ["value", "x"] "_law_is_lot" st_law_is_lot f cdv A outer s H E).env (cxf P w K mg base ["value", "x"] "_law_is_lot" st_law_is_lot f cdv A outer s H E).xe := passes_of rfl
  exact (gs_cons (gs_if (gb_or (gb_not (gb_truth (ge_isi1 (u := "tuple") (by rfl) B.isinstance (by decide) (pe_bltn (by rfl) B.tuple boot_tuple (by rfl)) (gv 0) (by rfl) (by rfl) (by rfl)) (fun _ => rfl))) (gb_or (gb_not (gb_chain hu (by rfl) gn_int (gc_len (by rfl) (gl_one (gv 0)) (by rfl) (by rfl) (by rfl) B.len) gn_int)) (gb_or1 (gb_not (gb_truth (gc_all (by rfl) (gl_one (ge_comp (own := [("x", 1)]) (t := (.name 1)) (by rfl) hnd (gi_seq (gv 0)) (blkOk_by (by rfl)) (fun _ _ _ _ _ => (gg_name (i := 1) hnd (by rfl) (by first | exact Or.inl rfl | exact Or.inr rfl) (by first | exact Or.inl rfl | exact Or.inr rfl))) (fun _ _ _ _ _ => gts_nil) (fun _ _ _ _ _ => (ge_and (ge_call (by exact c_law_is_whole.cald) (hr.mono (by decide)) takesW (by rfl) (gl_one (gv 1)) (by decide) (by rfl) (by rfl)) (ge_one1 (ge_chain hu (by rfl) gn_int (gv 1) gn_int)))) (fun _ => rfl) (by decide))) (by rfl) (by rfl) (by rfl) B.all) (fun _ => rfl)))))).pt
 (gs_cons (gs_ret gn_bl)
 gs_nil)
 gs_nil)
 (gs_cons (gs_ret (ge_and (ge_cmp hu (by rfl) (gc_list (by rfl) (gl_one (gv 0)) (by rfl) (by rfl) (by rfl) B.list) (ge_sortset (by rfl) (gv 0) (by rfl) B.sorted (by rfl) B.set (by rfl) (by rfl))) (ge_and (ge_cmp hu (by rfl) (ge_call (by exact c_law_gcd.cald) (hr.mono (by decide)) tk (by rfl) (gl_one (gv 0)) (by decide) (by rfl) (by rfl)) gn_int) (ge_one1 (ge_cmp hu (by rfl) (ge_call (by exact c_law_least.cald) (hr.mono (by decide)) tk (by rfl) (gl_one (gv 0)) (by decide) (by rfl) (by rfl)) (gv 0))))))
 gs_nil))
/-! ### _law_lot -/
abbrev st_law_lot : Stmt := top 43
def T_law_lot : SS :=
 (sSeq2 (sAsg 3 false (sComp (sRng (sCons (sBin .Add (sCon (.int 1)) (sArgs F_law_take (sCons (sVar 0) (sCons (sVar 1) sNil)))) sNil)) (.name 5) sYes (sBin .Add (sCon (.int 1)) (sArgs F_law_take (sCons (sVar 0) (sCons (sVar 2) sNil)))) (([("k", 5)] : List (Str × Nat)).map (·.2))))
 (sSeq2 (sAsg 4 false (sArgs F_law_gcd (sCons (sVar 3) sNil)))
 (sSeq2 (sRet (sArgs F_law_least (sCons (sComp (sSeq (sVar 3)) (.name 6) sYes (sBin .FloorDiv (sVar 6) (sVar 4)) (([("x", 6)] : List (Str × Nat)).map (·.2))) sNil)))
 sSkip)))
def F_law_lot : List AV → Mem → Out AV := fnRun 3 7 T_law_lot
theorem sc_law_lot : FnScope ["state", "many", "most", "items", "g", "k", "x"] ["state", "many", "most"] (defScope st_law_lot) := C8.fnScope_by rfl
theorem ok_law_lot {P : Program} {w : World} {K : PySem.W.Frag} {mg : Str → Option Value} {base : Heap} {f : Addr} {fd : FuncData} (F : Fun K "_law_lot" "_law_lot" st_law_lot f fd) (B : Bn mg) (c_law_gcd : CalD P w K mg base 1 "_law_gcd" F_law_gcd) (c_law_least : CalD P w K mg base 1 "_law_least" F_law_least) (c_law_take : CalD P w K mg base 1 "_law_take" F_law_take) : FnOk P w K mg base (L2.CX P w) 2 f fd ["state", "many", "most"] (spOf ⟨K, mg⟩ F_law_lot) := by
  refine fn_ok (N := ["state", "many", "most", "items", "g", "k", "x"]) F sc_law_lot (fun cdv A outer s H E hr => ?_)
  have hnd : (["state", "many", "most", "items", "g", "k", "x"] : List Str).Nodup := sc_law_lot.nd
  have hu : (A.deeper (envOfC "_law_lot" (defScope st_law_lot) s.heap.objs.size f cdv)).units + 65 < cLine := by have := hr.un; omega
  have tk : Takes (cxf P w K mg base ["state", "many", "most", "items", "g", "k", "x"] "_law_lot" st_law_lot f cdv A outer s H E) (fun cls d _ H' => E cls d H') := takes_of rfl rfl rfl rfl
  have po : PassesOwn (model P w) (cxf P w K mg base ["state", "many", "most", "items", "g", "k", "x"] "_law_lot" st_law_lot f cdv A outer s H E).A (cxf P w K mg base ["state", "many", "most", "items", "g", "k", "x"] "_law_lot" st_law_lot f cdv A outer s H E).env (cxf P w K mg base ["state", "many", "most", "items", "g", "k", "x"] "_law_lot" st_law_lot f cdv A outer s H E).xe := passes_of rfl
  exact (gs_cons (gs_asgLc (i := 3) (m := false) (own := [("k", 5)]) (t := (.name 5)) (by rfl) hnd (by rfl) (by rfl) (by rfl) (gi_rng1 (by rfl) B.range (by rfl) (gl_one (ge_bin gn_int (ge_call (by exact c_law_take.cald) (hr.mono (by decide)) tk (by rfl) (gl_more (gv 0) (gl_one (gv 1))) (by decide) (by rfl) (by rfl)))) (sl_cons sl_nil)) (blkOk_by (by rfl)) (fun _ _ _ _ _ => (gg_name (i := 5) hnd (by rfl) (by first | exact Or.inl rfl | exact Or.inr rfl) (by first | exact Or.inl rfl | exact Or.inr rfl))) (fun _ _ _ _ _ => gts_nil) (fun _ _ _ _ _ => (ge_bin gn_int (ge_call (by exact c_law_take.cald) (hr.mono (by decide)) takesW (by rfl) (gl_more (gv 0) (gl_one (gv 2))) (by decide) (by rfl) (by rfl)))) (fun _ => rfl) (by decide))
 (gs_cons (gs_asg (i := 4) (m := false) hnd (by rfl) (by first | exact Or.inl rfl | exact Or.inr rfl) (ge_call (by exact c_law_gcd.cald) (hr.mono (by decide)) tk (by rfl) (gl_one (gv 3)) (by decide) (by rfl) (by rfl)) (by rfl) (.inl rfl))
 (gs_cons (gs_ret (ge_call (by exact c_law_least.cald) (hr.mono (by decide)) tk (by rfl) (gl_one (ge_comp (own := [("x", 6)]) (t := (.name 6)) (by rfl) hnd (gi_seq (gv 3)) (blkOk_by (by rfl)) (fun _ _ _ _ _ => (gg_name (i := 6) hnd (by rfl) (by first | exact Or.inl rfl | exact Or.inr rfl) (by first | exact Or.inl rfl | exact Or.inr rfl))) (fun _ _ _ _ _ => gts_nil) (fun _ _ _ _ _ => (ge_bin (gv 6) (gv 4))) (fun _ => rfl) (by decide))) (by decide) (by rfl) (by rfl)))
 gs_nil)))
/-! ### _law_bad_lots -/
abbrev st_law_bad_lots : Stmt := top 44
def T_law_bad_lots : SS :=
 (sSeq2 (sAsg 0 false (sLst (sCons (sCon .non) (sCons (sCon (.int 5)) (sCons (sTup sNil) (sCons (sCon (.str "lot")) (sCons (sLst (sCons (sCon (.int 1)) sNil)) (sCons (sTup (sCons (sCon (.int 0)) sNil)) (sCons (sTup (sCons (sCon (.int 2)) sNil)) (sCons (sTup (sCons (sCon (.int 2)) (sCons (sCon (.int 4)) sNil))) (sCons (sTup (sCons (sCon (.int 3)) (sCons (sCon (.int 2)) sNil))) (sCons (sTup (sCons (sCon (.int 2)) (sCons (sCon (.int 3)) (sCons (sCon (.int 4)) sNil)))) (sCons (sTup (sCons (sCon (.int 2)) (sCons (sCon (.int 3)) (sCons (sCon (.int 5)) sNil)))) (sCons (sTup (sCons (sCon (.int 1)) (sCons (sCon (.int 2)) sNil))) (sCons (sTup (sCons (sCon (.bl true)) sNil)) (sCons (sTup (sCons (sCon (.str "1")) sNil)) (sCons (sTup (sCons (sCon (.int 2)) (sCons (sCon (.int 1001)) sNil))) (sCons (sTup (sCons (sNeg (sCon (.int 1))) (sCons (sCon (.int 2)) sNil))) (sCons (sTup (sCons (sCon (.int 2)) (sCons (sCon (.int 3)) (sCons (sCon (.int 3)) sNil)))) sNil)))))))))))))))))))
 (sSeq2 (sRet (sBin .Add (sVar 0) (sLst (sCons (sRgT (sCon (.int 13)) (sCon (.int 26))) (sCons (sTup (sCons (sCon (.int 4)) (sCons (sCon (.int 6)) sNil))) (sCons (sTup (sCons (sCon (.int 2)) (sCons (sCon .non) sNil))) (sCons (sTup (sCons (sTup (sCons (sCon (.int 2)) (sCons (sCon (.int 3)) sNil))) sNil)) sNil)))))))
 sSkip))
def F_law_bad_lots : List AV → Mem → Out AV := fnRun 0 1 T_law_bad_lots
theorem sc_law_bad_lots : FnScope ["bad"] [] (defScope st_law_bad_lots) := C8.fnScope_by rfl
theorem ok_law_bad_lots {P : Program} {w : World} {K : PySem.W.Frag} {mg : Str → Option Value} {base : Heap} {f : Addr} {fd : FuncData} (F : Fun K "_law_bad_lots" "_law_bad_lots" st_law_bad_lots f fd) (B : Bn mg) : FnOk P w K mg base (L2.CX P w) 1 f fd [] (spOf ⟨K, mg⟩ F_law_bad_lots) := by
  refine fn_ok (N := ["bad"]) F sc_law_bad_lots (fun cdv A outer s H E hr => ?_)
  have hnd : (["bad"] : List Str).Nodup := sc_law_bad_lots.nd
  have hu : (A.deeper (envOfC "_law_bad_lots" (defScope st_law_bad_lots) s.heap.objs.size f cdv)).units + 65 < cLine := by have := hr.un; omega
  have tk : Takes (cxf P w K mg base ["bad"] "_law_bad_lots" st_law_bad_lots f cdv A outer s H E) (fun cls d _ H' => E cls d H') := takes_of rfl rfl rfl rfl
  have po : PassesOwn (model P w) (cxf P w K mg base ["bad"] "_law_bad_lots" st_law_bad_lots f cdv A outer s H E).A (cxf P w K mg base ["bad"] "_law_bad_lots" st_law_bad_lots f cdv A outer s H E).env (cxf P w K mg base ["bad"] "_law_bad_lots" st_law_bad_lots f cdv A outer s H E).xe := passes_of rfl
  exact (gs_cons (gs_asg (i := 0) (m := false) hnd (by rfl) (by first | exact Or.inl rfl | exact Or.inr rfl) (ge_lst (gl_more gn_non (gl_more gn_int (gl_more (ge_tup gl_nil) (gl_more gn_str (gl_more (ge_lst (gl_one gn_int)) (gl_more (ge_tup (gl_one gn_int)) (gl_more (ge_tup (gl_one gn_int)) (gl_more (ge_tup (gl_more gn_int (gl_one gn_int))) (gl_more (ge_tup (gl_more gn_int (gl_one gn_int))) (gl_more (ge_tup (gl_more gn_int (gl_more gn_int (gl_one gn_int)))) (gl_more (ge_tup (gl_more gn_int (gl_more gn_int (gl_one gn_int)))) (gl_more (ge_tup (gl_more gn_int (gl_one gn_int))) (gl_more (ge_tup (gl_one gn_bl)) (gl_more (ge_tup (gl_one gn_str)) (gl_more (ge_tup (gl_more gn_int (gl_one gn_int))) (gl_more (ge_tup (gl_more (ge_neg gn_int) (gl_one gn_int))) (gl_one (ge_tup (gl_more gn_int (gl_more gn_int (gl_one gn_int)))))))))))))))))))))) (by rfl) (.inl rfl))
 (gs_cons (gs_ret (ge_bin (gv 0) (ge_lst (gl_more (ge_rgT (by rfl) (by rfl) B.tuple (by rfl) B.range gn_int gn_int (by rfl) (by rfl) (by rfl) (by rfl)) (gl_more (ge_tup (gl_more gn_int (gl_one gn_int))) (gl_more (ge_tup (gl_more gn_int (gl_one gn_non))) (gl_one (ge_tup (gl_one (ge_tup (gl_more gn_int (gl_one gn_int))))))))))))
 gs_nil))
/-! ### _law_told -/
abbrev st_law_told : Stmt := top 45
def T_law_told : SS :=
 (sSeq2 (sTry ctE (sSeq2 (sIfS (sB (sCmp .Lt (sVar 0) (sCon (.int 4))))
 (sSeq2 (sRet (sTup (sCons (sCon (.str "told")) (sCons (sArgs F_law_honest (sCons (sCallV [("lot_of", Flot_of), ("lot_conductor", Flot_conductor), ("lot_genus", Flot_genus), ("lot_gaps", Flot_gaps)] (sIdx (sLst (sCons (sCon (.fn "lot_of")) (sCons (sCon (.fn "lot_conductor")) (sCons (sCon (.fn "lot_genus")) (sCons (sCon (.fn "lot_gaps")) sNil))))) (sVar 0)) (sCons (sVar 1) sNil)) sNil)) sNil))))
 sSkip)
 sSkip)
 (sSeq2 (sRet (sTup (sCons (sCon (.str "told")) (sCons (sArgs F_law_honest (sCons (sCallV [("lot_holds", Flot_holds), ("lot_apery", Flot_apery)] (sIdx (sLst (sCons (sCon (.fn "lot_holds")) (sCons (sCon (.fn "lot_apery")) sNil))) (sBin .Sub (sVar 0) (sCon (.int 4)))) (sCons (sVar 1) (sCons (sVar 2) sNil))) sNil)) sNil))))
 sSkip)) [("Malformed", (xTup2 (fun _ => some (.str "malformed")) (fun _ => some .non))), ("Refused", (xTup2 (fun _ => some (.str "refused")) (xFld "Refused" "reason")))])
 sSkip)
def F_law_told : List AV → Mem → Out AV := fnRun 3 4 T_law_told
theorem sc_law_told : FnScope ["which", "lot", "x", "error"] ["which", "lot", "x"] (defScope st_law_told) := C8.fnScope_by rfl
theorem ok_law_told {P : Program} {w : World} {K : PySem.W.Frag} {mg : Str → Option Value} {base : Heap} {f CM CR fR : Addr} {fd : FuncData} (F : Fun K "_law_told" "_law_told" st_law_told f fd) (T : Errs P K mg CM CR fR) (c_law_honest : CalD P w K mg base 9 "_law_honest" F_law_honest) (clot_apery : CalD P w K mg base 5 "lot_apery" Flot_apery) (clot_conductor : CalD P w K mg base 5 "lot_conductor" Flot_conductor) (clot_gaps : CalD P w K mg base 5 "lot_gaps" Flot_gaps) (clot_genus : CalD P w K mg base 5 "lot_genus" Flot_genus) (clot_holds : CalD P w K mg base 5 "lot_holds" Flot_holds) (clot_of : CalD P w K mg base 3 "lot_of" Flot_of) : FnOk P w K mg base (L2.CX P w) 10 f fd ["which", "lot", "x"] (spOf ⟨K, mg⟩ F_law_told) := by
  refine fn_ok (N := ["which", "lot", "x", "error"]) F sc_law_told (fun cdv A outer s H E hr => ?_)
  have hnd : (["which", "lot", "x", "error"] : List Str).Nodup := sc_law_told.nd
  have hu : (A.deeper (envOfC "_law_told" (defScope st_law_told) s.heap.objs.size f cdv)).units + 65 < cLine := by have := hr.un; omega
  have tk : Takes (cxf P w K mg base ["which", "lot", "x", "error"] "_law_told" st_law_told f cdv A outer s H E) (fun cls d _ H' => E cls d H') := takes_of rfl rfl rfl rfl
  have po : PassesOwn (model P w) (cxf P w K mg base ["which", "lot", "x", "error"] "_law_told" st_law_told f cdv A outer s H E).A (cxf P w K mg base ["which", "lot", "x", "error"] "_law_told" st_law_told f cdv A outer s H E).env (cxf P w K mg base ["which", "lot", "x", "error"] "_law_told" st_law_told f cdv A outer s H E).xe := passes_of rfl
  exact (gs_cons (gs_try (ct := ctE) (l := [⟨"Malformed", .ref CM, none, (xTup2 (fun _ => some (.str "malformed")) (fun _ => some .non))⟩, ⟨"Refused", .ref CR, (some 3), (xTup2 (fun _ => some (.str "refused")) (xFld "Refused" "reason"))⟩]) (by rfl) (by rfl) tk (fun W1 pn1 xe1 tk1 po1 => (gs_cons (gs_if (gb_cmp hu (by rfl) (gv 0) gn_int)
 (gs_cons (gs_ret (ge_tup (gl_more gn_str (gl_one (ge_call (by exact c_law_honest.cald) (hr.mono (by decide)) tk1 (by rfl) (gl_one (ge_callv (k := 9) (tab := [("lot_of", Flot_of), ("lot_conductor", Flot_conductor), ("lot_genus", Flot_genus), ("lot_gaps", Flot_gaps)]) (tab_cons (by exact (clot_of.mono (by decide : 3 ≤ 9)).cald) (tab_cons (by exact (clot_conductor.mono (by decide : 5 ≤ 9)).cald) (tab_cons (by exact (clot_genus.mono (by decide : 5 ≤ 9)).cald) (tab_cons (by exact (clot_gaps.mono (by decide : 5 ≤ 9)).cald) tab_nil)))) hr tk1 (ge_idx (fun _ _ => rfl) (ge_lst (gl_more (gn_cal (by exact clot_of.cald) (by rfl) (by decide)) (gl_more (gn_cal (by exact clot_conductor.cald) (by rfl) (by decide)) (gl_more (gn_cal (by exact clot_genus.cald) (by rfl) (by decide)) (gl_one (gn_cal (by exact clot_gaps.cald) (by rfl) (by decide))))))) (gv 0)) (gl_one (gv 1)) (by rfl) (by rfl) (by rfl))) (by decide) (by rfl) (by rfl))))))
 gs_nil)
 gs_nil)
 (gs_cons (gs_ret (ge_tup (gl_more gn_str (gl_one (ge_call (by exact c_law_honest.cald) (hr.mono (by decide)) tk1 (by rfl) (gl_one (ge_callv (k := 9) (tab := [("lot_holds", Flot_holds), ("lot_apery", Flot_apery)]) (tab_cons (by exact (clot_holds.mono (by decide : 5 ≤ 9)).cald) (tab_cons (by exact (clot_apery.mono (by decide : 5 ≤ 9)).cald) tab_nil)) hr tk1 (ge_idx (fun _ _ => rfl) (ge_lst (gl_more (gn_cal (by exact clot_holds.cald) (by rfl) (by decide)) (gl_one (gn_cal (by exact clot_apery.cald) (by rfl) (by decide))))) (ge_bin (gv 0) gn_int)) (gl_more (gv 1) (gl_one (gv 2))) (by rfl) (by rfl) (by rfl))) (by decide) (by rfl) (by rfl))))))
 gs_nil)))
 (by exact (HdsMx.cons (names_own (by rfl) T.gM (by decide)) (fun a oe cls d pn hz hf => gsu (gx_tup2 gx_str gx_non (by rfl) (by rfl))) (HdsMx.consA (names_own (by rfl) T.ref.gC (by decide)) hnd (i := 3) (by rfl) (by rfl) (fun a oe cls d pn hz hf => gsu (gx_tup2 gx_str (gx_reason T (i := 3) hz hf (by rfl) (by first | exact Or.inl rfl | exact Or.inr (Or.inl rfl)) (by decide) (by decide) (by rfl)) (by rfl) (by rfl))) HdsMx.nil))) (by intro h hh; simp only [List.mem_cons, List.mem_nil_iff, or_false] at hh; rcases hh with rfl | rfl <;> first | exact T.ctM | exact T.ctR) (by intro h hh i hi; simp only [List.mem_cons, List.mem_nil_iff, or_false] at hh; rcases hh with rfl | rfl <;> cases hi <;> exact (by decide : 3 < 4)))
 gs_nil)
/-! ### _law_small_right -/
abbrev st_law_small_right : Stmt := top 46
def T_law_small_right : SS :=
 (sSeq2 (sAsg 2 false (sArgs F_law_lot_conductor (sCons (sVar 1) sNil)))
 (sSeq2 (sAsg 3 false (sArgs F_law_lot_sums (sCons (sVar 1) (sCons (sBin .Add (sVar 2) (sCon (.int 60))) sNil))))
 (sSeq2 (sAsg 4 false (sComp (sRng (sCons (sArgs lenOp (sCons (sVar 3) sNil)) sNil)) (.name 6) (sNotB (sB (sIdx (sVar 3) (sVar 6)))) (sVar 6) (([("k", 6)] : List (Str × Nat)).map (·.2))))
 (sSeq2 (sIfS (sB (sCmp .NotEq (sSlice (sVar 4) (some (sNeg (sCon (.int 1)))) none) (sIf (sB (sCmp .Gt (sVar 2) (sCon (.int 0)))) (sLst (sCons (sBin .Sub (sVar 2) (sCon (.int 1))) sNil)) (sLst sNil))))
 (sSeq2 (sRet (sCon (.bl false)))
 sSkip)
 sSkip)
 (sSeq2 (sIfS (sOrB (sNotB (sB (sArgs (F_law_same 8) (sCons (sArgs F_law_told (sCons (sCon (.int 1)) (sCons (sVar 1) (sCons (sCon .non) sNil)))) (sCons (sTup (sCons (sCon (.str "told")) (sCons (sVar 2) sNil))) sNil))))) (sOrB (sNotB (sB (sArgs (F_law_same 8) (sCons (sArgs F_law_told (sCons (sCon (.int 2)) (sCons (sVar 1) (sCons (sCon .non) sNil)))) (sCons (sTup (sCons (sCon (.str "told")) (sCons (sArgs lenOp (sCons (sVar 4) sNil)) sNil))) sNil))))) (sNotB (sB (sArgs (F_law_same 8) (sCons (sArgs F_law_told (sCons (sCon (.int 3)) (sCons (sVar 1) (sCons (sCon .non) sNil)))) (sCons (sTup (sCons (sCon (.str "told")) (sCons (sArgs tupleOp (sCons (sVar 4) sNil)) sNil))) sNil)))))))
 (sSeq2 (sRet (sCon (.bl false)))
 sSkip)
 sSkip)
 (sSeq2 (sFor (sRng (sCons (sCon (.int 8)) sNil)) (.name 5)
 (sSeq2 (sAsg 6 false (sIf (sB (sCmp .Gt (sArgs F_law_take (sCons (sVar 0) (sCons (sCon (.int 4)) sNil))) (sCon (.int 0)))) (sArgs F_law_take (sCons (sVar 0) (sCons (sBin .Add (sVar 2) (sCon (.int 61))) sNil))) (sNeg (sArgs F_law_take (sCons (sVar 0) (sCons (sCon (.int 90)) sNil))))))
 (sSeq2 (sAsg 7 false (sArgs F_law_told (sCons (sCon (.int 4)) (sCons (sVar 1) (sCons (sVar 6) sNil)))))
 (sSeq2 (sIfS (sOrB (sB (sCmp .NotEq (sIdx (sVar 7) (sCon (.int 0))) (sCon (.str "told")))) (sNotB (sB (sArgs F_law_says (sCons (sIdx (sVar 7) (sCon (.int 1))) (sCons (sAnd (sCmp .GtE (sVar 6) (sCon (.int 0))) (sIdx (sVar 3) (sVar 6))) sNil))))))
 (sSeq2 (sRet (sCon (.bl false)))
 sSkip)
 sSkip)
 (sSeq2 (sIfS (sB (sChain .Lt .LtE (sCon (.int 0)) (sVar 6) (sCon (.int 1000))))
 (sSeq2 (sAsg 8 false (sIf (sB (sIdx (sVar 3) (sVar 6))) (sTup (sCons (sCon (.str "told")) (sCons (sArgs tupleOp (sCons (sArgs F_law_apery (sCons (sVar 1) (sCons (sVar 6) sNil))) sNil)) sNil))) (sTup (sCons (sCon (.str "malformed")) (sCons (sCon .non) sNil)))))
 (sSeq2 (sIfS (sNotB (sB (sArgs (F_law_same 8) (sCons (sArgs F_law_told (sCons (sCon (.int 5)) (sCons (sVar 1) (sCons (sVar 6) sNil)))) (sCons (sVar 8) sNil)))))
 (sSeq2 (sRet (sCon (.bl false)))
 sSkip)
 sSkip)
 sSkip))
 sSkip)
 sSkip)))))
 (sSeq2 (sRet (sArgs (F_law_same 8) (sCons (sArgs F_law_told (sCons (sCon (.int 5)) (sCons (sVar 1) (sCons (sIdx (sVar 1) (sCon (.int 0))) sNil)))) (sCons (sTup (sCons (sCon (.str "told")) (sCons (sArgs tupleOp (sCons (sArgs F_law_apery (sCons (sVar 1) (sCons (sIdx (sVar 1) (sCon (.int 0))) sNil))) sNil)) sNil))) sNil))))
 sSkip)))))))
def F_law_small_right : List AV → Mem → Out AV := fnRun 2 9 T_law_small_right
theorem sc_law_small_right : FnScope ["state", "lot", "c", "held", "gaps", "turn", "k", "told", "due"] ["state", "lot"] (defScope st_law_small_right) := C8.fnScope_by rfl
theorem ok_law_small_right {P : Program} {w : World} {K : PySem.W.Frag} {mg : Str → Option Value} {base : Heap} {f : Addr} {fd : FuncData} (F : Fun K "_law_small_right" "_law_small_right" st_law_small_right f fd) (B : Bn mg) (c_law_apery : CalD P w K mg base 2 "_law_apery" F_law_apery) (c_law_lot_conductor : CalD P w K mg base 3 "_law_lot_conductor" F_law_lot_conductor) (c_law_lot_sums : CalD P w K mg base 1 "_law_lot_sums" F_law_lot_sums) (c_law_same : CalD P w K mg base 9 "_law_same" (F_law_same 8)) (c_law_says : CalD P w K mg base 1 "_law_says" F_law_says) (c_law_take : CalD P w K mg base 1 "_law_take" F_law_take) (c_law_told : CalD P w K mg base 10 "_law_told" F_law_told) : FnOk P w K mg base (L2.CX P w) 11 f fd ["state", "lot"] (spOf ⟨K, mg⟩ F_law_small_right) := by
  refine fn_ok (N := ["state", "lot", "c", "held", "gaps", "turn", "k", "told", "due"]) F sc_law_small_right (fun cdv A outer s H E hr => ?_)
  have hnd : (["state", "lot", "c", "held", "gaps", "turn", "k", "told", "due"] : List Str).Nodup := sc_law_small_right.nd
  have hu : (A.deeper (envOfC "_law_small_right" (defScope st_law_small_right) s.heap.objs.size f cdv)).units + 65 < cLine := by have := hr.un; omega
  have tk : Takes (cxf P w K mg base ["state", "lot", "c", "held", "gaps", "turn", "k", "told", "due"] "_law_small_right" st_law_small_right f cdv A outer s H E) (fun cls d _ H' => E cls d H') := takes_of rfl rfl rfl rfl
  have po : PassesOwn (model P w) (cxf P w K mg base ["state", "lot", "c", "held", "gaps", "turn", "k", "told", "due"] "_law_small_right" st_law_small_right f cdv A outer s H E).A (cxf P w K mg base ["state", "lot", "c", "held", "gaps", "turn", "k", "told", "due"] "_law_small_right" st_law_small_right f cdv A outer s H E).env (cxf P w K mg base ["state", "lot", "c", "held", "gaps", "turn", "k", "told", "due"] "_law_small_right" st_law_small_right f cdv A outer s H E).xe := passes_of rfl
  exact (gs_cons (gs_asg (i := 2) (m := false) hnd (by rfl) (by first | exact Or.inl rfl | exact Or.inr rfl) (ge_call (by exact c_law_lot_conductor.cald) (hr.mono (by decide)) tk (by rfl) (gl_one (gv 1)) (by decide) (by rfl) (by rfl)) (by rfl) (.inl rfl))
 (gs_cons (gs_asg (i := 3) (m := false) hnd (by rfl) (by first | exact Or.inl rfl | exact Or.inr rfl) (ge_call (by exact c_law_lot_sums.cald) (hr.mono (by decide)) tk (by rfl) (gl_more (gv 1) (gl_one (ge_bin (gv 2) gn_int))) (by decide) (by rfl) (by rfl)) (by rfl) (.inl rfl))
 (gs_cons (gs_asgLc (i := 4) (m := false) (own := [("k", 6)]) (t := (.name 6)) (by rfl) hnd (by rfl) (by rfl) (by rfl) (gi_rng1 (by rfl) B.range (by rfl) (gl_one (gc_len (by rfl) (gl_one (gv 3)) (by rfl) (by rfl) (by rfl) B.len)) (sl_cons sl_nil)) (blkOk_by (by rfl)) (fun _ _ _ _ _ => (gg_name (i := 6) hnd (by rfl) (by first | exact Or.inl rfl | exact Or.inr rfl) (by first | exact Or.inl rfl | exact Or.inr rfl))) (fun _ _ _ _ _ => gts_one (gb_not (gb_truth (ge_idx (fun _ _ => rfl) (gv 3) (gv 6)) (fun _ => rfl)))) (fun _ _ _ _ _ => (gv 6)) (fun _ => rfl) (by decide))
 (gs_cons (gs_if (gb_cmp hu (by rfl) (gk_10 (gv 4) (ge_neg gn_int)) (ge_if (gb_cmp hu (by rfl) (gv 2) gn_int) (ge_lst (gl_one (ge_bin (gv 2) gn_int))) (ge_lst gl_nil)))
 (gs_cons (gs_ret gn_bl)
 gs_nil)
 gs_nil)
 (gs_cons (gs_if (gb_or (gb_not (gb_truth (ge_call (by exact c_law_same.cald) (hr.mono (by decide)) tk (by rfl) (gl_more (ge_call (by exact c_law_told.cald) (hr.mono (by decide)) tk (by rfl) (gl_more gn_int (gl_more (gv 1) (gl_one gn_non))) (by decide) (by rfl) (by rfl)) (gl_one (ge_tup (gl_more gn_str (gl_one (gv 2)))))) (by decide) (by rfl) (by rfl)) (fun _ => rfl))) (gb_or (gb_not (gb_truth (ge_call (by exact c_law_same.cald) (hr.mono (by decide)) tk (by rfl) (gl_more (ge_call (by exact c_law_told.cald) (hr.mono (by decide)) tk (by rfl) (gl_more gn_int (gl_more (gv 1) (gl_one gn_non))) (by decide) (by rfl) (by rfl)) (gl_one (ge_tup (gl_more gn_str (gl_one (gc_len (by rfl) (gl_one (gv 4)) (by rfl) (by rfl) (by rfl) B.len)))))) (by decide) (by rfl) (by rfl)) (fun _ => rfl))) (gb_or1 (gb_not (gb_truth (ge_call (by exact c_law_same.cald) (hr.mono (by decide)) tk (by rfl) (gl_more (ge_call (by exact c_law_told.cald) (hr.mono (by decide)) tk (by rfl) (gl_more gn_int (gl_more (gv 1) (gl_one gn_non))) (by decide) (by rfl) (by rfl)) (gl_one (ge_tup (gl_more gn_str (gl_one (gc_tuple (by rfl) (gl_one (gv 4)) (by rfl) (by rfl) (by rfl) B.tuple)))))) (by decide) (by rfl) (by rfl)) (fun _ => rfl)))))).pt
 (gs_cons (gs_ret gn_bl)
 gs_nil)
 gs_nil)
 (gs_cons (gs_for (t := (.name 5)) po (by rfl) (gi_rng1 (by rfl) B.range (by rfl) (gl_one gn_int) (sl_cons sl_nil)) (gg_name (i := 5) hnd (by rfl) (by first | exact Or.inl rfl | exact Or.inr rfl) (by first | exact Or.inl rfl | exact Or.inr rfl))
 (gs_cons (gs_asg (i := 6) (m := false) hnd (by rfl) (by first | exact Or.inl rfl | exact Or.inr rfl) (ge_if (gb_cmp hu (by rfl) (ge_call (by exact c_law_take.cald) (hr.mono (by decide)) tk (by rfl) (gl_more (gv 0) (gl_one gn_int)) (by decide) (by rfl) (by rfl)) gn_int) (ge_call (by exact c_law_take.cald) (hr.mono (by decide)) tk (by rfl) (gl_more (gv 0) (gl_one (ge_bin (gv 2) gn_int))) (by decide) (by rfl) (by rfl)) (ge_neg (ge_call (by exact c_law_take.cald) (hr.mono (by decide)) tk (by rfl) (gl_more (gv 0) (gl_one gn_int)) (by decide) (by rfl) (by rfl)))) (by rfl) (.inl rfl))
 (gs_cons (gs_asg (i := 7) (m := false) hnd (by rfl) (by first | exact Or.inl rfl | exact Or.inr rfl) (ge_call (by exact c_law_told.cald) (hr.mono (by decide)) tk (by rfl) (gl_more gn_int (gl_more (gv 1) (gl_one (gv 6)))) (by decide) (by rfl) (by rfl)) (by rfl) (.inl rfl))
 (gs_cons (gs_if (gb_or (gb_cmp hu (by rfl) (ge_idx (fun _ _ => rfl) (gv 7) gn_int) gn_str) (gb_or1 (gb_not (gb_truth (ge_call (by exact c_law_says.cald) (hr.mono (by decide)) tk (by rfl) (gl_more (ge_idx (fun _ _ => rfl) (gv 7) gn_int) (gl_one (ge_and (ge_cmp hu (by rfl) (gv 6) gn_int) (ge_one1 (ge_idx (fun _ _ => rfl) (gv 3) (gv 6)))))) (by decide) (by rfl) (by rfl)) (fun _ => rfl))))).pt
 (gs_cons (gs_ret gn_bl)
 gs_nil)
 gs_nil)
 (gs_cons (gs_if (gb_chain hu (by rfl) gn_int (gv 6) gn_int)
 (gs_cons (gs_asg (i := 8) (m := false) hnd (by rfl) (by first | exact Or.inl rfl | exact Or.inr rfl) (ge_if (gb_truth (ge_idx (fun _ _ => rfl) (gv 3) (gv 6)) (fun _ => rfl)) (ge_tup (gl_more gn_str (gl_one (gc_tuple (by rfl) (gl_one (ge_call (by exact c_law_apery.cald) (hr.mono (by decide)) tk (by rfl) (gl_more (gv 1) (gl_one (gv 6))) (by decide) (by rfl) (by rfl))) (by rfl) (by rfl) (by rfl) B.tuple)))) (ge_tup (gl_more gn_str (gl_one gn_non)))) (by rfl) (.inl rfl))
 (gs_cons (gs_if (gb_not (gb_truth (ge_call (by exact c_law_same.cald) (hr.mono (by decide)) tk (by rfl) (gl_more (ge_call (by exact c_law_told.cald) (hr.mono (by decide)) tk (by rfl) (gl_more gn_int (gl_more (gv 1) (gl_one (gv 6)))) (by decide) (by rfl) (by rfl)) (gl_one (gv 8))) (by decide) (by rfl) (by rfl)) (fun _ => rfl)))
 (gs_cons (gs_ret gn_bl)
 gs_nil)
 gs_nil)
 gs_nil))
 gs_nil)
 gs_nil)))) (fun _ => rfl))
 (gs_cons (gs_ret (ge_call (by exact c_law_same.cald) (hr.mono (by decide)) tk (by rfl) (gl_more (ge_call (by exact c_law_told.cald) (hr.mono (by decide)) tk (by rfl) (gl_more gn_int (gl_more (gv 1) (gl_one (ge_idx (fun _ _ => rfl) (gv 1) gn_int)))) (by decide) (by rfl) (by rfl)) (gl_one (ge_tup (gl_more gn_str (gl_one (gc_tuple (by rfl) (gl_one (ge_call (by exact c_law_apery.cald) (hr.mono (by decide)) tk (by rfl) (gl_more (gv 1) (gl_one (ge_idx (fun _ _ => rfl) (gv 1) gn_int))) (by decide) (by rfl) (by rfl))) (by rfl) (by rfl) (by rfl) B.tuple)))))) (by decide) (by rfl) (by rfl)))
 gs_nil)))))))
/-! ### _law_great_right -/
abbrev st_law_great_right : Stmt := top 47
def T_law_great_right : SS :=
 (sSeq2 (sPar2 4 5 false false (sArgs F_law_lot_conductor (sCons (sVar 1) sNil)) (sArgs F_law_apery (sCons (sVar 1) (sCons (sIdx (sVar 1) (sCon (.int 0))) sNil))))
 (sSeq2 (sAsg 2 false (sIdx (sVar 1) (sCon (.int 0))))
 (sSeq2 (sIfS (sOrB (sNotB (sB (sArgs (F_law_same 8) (sCons (sArgs F_law_told (sCons (sCon (.int 1)) (sCons (sVar 1) (sCons (sCon .non) sNil)))) (sCons (sTup (sCons (sCon (.str "told")) (sCons (sVar 4) sNil))) sNil))))) (sNotB (sB (sArgs (F_law_same 8) (sCons (sArgs F_law_told (sCons (sCon (.int 2)) (sCons (sVar 1) (sCons (sCon .non) sNil)))) (sCons (sTup (sCons (sCon (.str "told")) (sCons (sArgs sumOp (sCons (sComp (sSeq (sVar 5)) (.name 8) sYes (sBin .FloorDiv (sVar 8) (sVar 2)) (([("w", 8)] : List (Str × Nat)).map (·.2))) sNil)) sNil))) sNil))))))
 (sSeq2 (sRet (sCon (.bl false)))
 sSkip)
 sSkip)
 (sSeq2 (sIfS (sAndB (sB (sCmp .Gt (sVar 4) (sCon (.int 3000)))) (sNotB (sB (sArgs (F_law_same 8) (sCons (sArgs F_law_told (sCons (sCon (.int 3)) (sCons (sVar 1) (sCons (sCon .non) sNil)))) (sCons (sTup (sCons (sCon (.str "refused")) (sCons (sCon (.str "large")) sNil))) sNil))))))
 (sSeq2 (sRet (sCon (.bl false)))
 sSkip)
 sSkip)
 (sSeq2 (sFor (sRng (sCons (sCon (.int 6)) sNil)) (.name 3)
 (sSeq2 (sAsg 6 false (sBin .Sub (sBin .Sub (sVar 4) (sCon (.int 1))) (sArgs F_law_take (sCons (sVar 0) (sCons (sBin .Mult (sCon (.int 5)) (sVar 2)) sNil)))))
 (sSeq2 (sAsg 7 false (sArgs F_law_told (sCons (sCon (.int 4)) (sCons (sVar 1) (sCons (sVar 6) sNil)))))
 (sSeq2 (sIfS (sOrB (sB (sCmp .NotEq (sIdx (sVar 7) (sCon (.int 0))) (sCon (.str "told")))) (sNotB (sB (sArgs F_law_says (sCons (sIdx (sVar 7) (sCon (.int 1))) (sCons (sAnd (sCmp .GtE (sVar 6) (sCon (.int 0))) (sCmp .LtE (sIdx (sVar 5) (sBin .Mod (sArgs intOp (sCons (sVar 6) sNil)) (sVar 2))) (sVar 6))) sNil))))))
 (sSeq2 (sRet (sCon (.bl false)))
 sSkip)
 sSkip)
 sSkip))))
 (sSeq2 (sRet (sCon (.bl true)))
 sSkip))))))
def F_law_great_right : List AV → Mem → Out AV := fnRun 2 9 T_law_great_right
theorem sc_law_great_right : FnScope ["state", "lot", "m", "turn", "c", "least", "k", "told", "w"] ["state", "lot"] (defScope st_law_great_right) := C8.fnScope_by rfl
theorem ok_law_great_right {P : Program} {w : World} {K : PySem.W.Frag} {mg : Str → Option Value} {base : Heap} {f : Addr} {fd : FuncData} (F : Fun K "_law_great_right" "_law_great_right" st_law_great_right f fd) (B : Bn mg) (c_law_apery : CalD P w K mg base 2 "_law_apery" F_law_apery) (c_law_lot_conductor : CalD P w K mg base 3 "_law_lot_conductor" F_law_lot_conductor) (c_law_same : CalD P w K mg base 9 "_law_same" (F_law_same 8)) (c_law_says : CalD P w K mg base 1 "_law_says" F_law_says) (c_law_take : CalD P w K mg base 1 "_law_take" F_law_take) (c_law_told : CalD P w K mg base 10 "_law_told" F_law_told) : FnOk P w K mg base (L2.CX P w) 11 f fd ["state", "lot"] (spOf ⟨K, mg⟩ F_law_great_right) := by
  refine fn_ok (N := ["state", "lot", "m", "turn", "c", "least", "k", "told", "w"]) F sc_law_great_right (fun cdv A outer s H E hr => ?_)
  have hnd : (["state", "lot", "m", "turn", "c", "least", "k", "told", "w"] : List Str).Nodup := sc_law_great_right.nd
  have hu : (A.deeper (envOfC "_law_great_right" (defScope st_law_great_right) s.heap.objs.size f cdv)).units + 65 < cLine := by have := hr.un; omega
  have tk : Takes (cxf P w K mg base ["state", "lot", "m", "turn", "c", "least", "k", "told", "w"] "_law_great_right" st_law_great_right f cdv A outer s H E) (fun cls d _ H' => E cls d H') := takes_of rfl rfl rfl rfl
  have po : PassesOwn (model P w) (cxf P w K mg base ["state", "lot", "m", "turn", "c", "least", "k", "told", "w"] "_law_great_right" st_law_great_right f cdv A outer s H E).A (cxf P w K mg base ["state", "lot", "m", "turn", "c", "least", "k", "told", "w"] "_law_great_right" st_law_great_right f cdv A outer s H E).env (cxf P w K mg base ["state", "lot", "m", "turn", "c", "least", "k", "told", "w"] "_law_great_right" st_law_great_right f cdv A outer s H E).xe := passes_of rfl
  exact (gs_cons (gs_par2 (i := 4) (j := 5) (m := false) (n := false) (by rfl) hnd (by rfl) (by rfl) (by decide) (by rfl) (by rfl) (ge_call (by exact c_law_lot_conductor.cald) (hr.mono (by decide)) tk (by rfl) (gl_one (gv 1)) (by decide) (by rfl) (by rfl)) (ge_call (by exact c_law_apery.cald) (hr.mono (by decide)) tk (by rfl) (gl_more (gv 1) (gl_one (ge_idx (fun _ _ => rfl) (gv 1) gn_int))) (by decide) (by rfl) (by rfl)) (by rfl) (by rfl) (by rfl) (by rfl))
 (gs_cons (gs_asg (i := 2) (m := false) hnd (by rfl) (by first | exact Or.inl rfl | exact Or.inr rfl) (ge_idx (fun _ _ => rfl) (gv 1) gn_int) (by rfl) (.inl rfl))
 (gs_cons (gs_if (gb_or (gb_not (gb_truth (ge_call (by exact c_law_same.cald) (hr.mono (by decide)) tk (by rfl) (gl_more (ge_call (by exact c_law_told.cald) (hr.mono (by decide)) tk (by rfl) (gl_more gn_int (gl_more (gv 1) (gl_one gn_non))) (by decide) (by rfl) (by rfl)) (gl_one (ge_tup (gl_more gn_str (gl_one (gv 4)))))) (by decide) (by rfl) (by rfl)) (fun _ => rfl))) (gb_or1 (gb_not (gb_truth (ge_call (by exact c_law_same.cald) (hr.mono (by decide)) tk (by rfl) (gl_more (ge_call (by exact c_law_told.cald) (hr.mono (by decide)) tk (by rfl) (gl_more gn_int (gl_more (gv 1) (gl_one gn_non))) (by decide) (by rfl) (by rfl)) (gl_one (ge_tup (gl_more gn_str (gl_one (gc_sum (by rfl) (gl_one (ge_comp (own := [("w", 8)]) (t := (.name 8)) (by rfl) hnd (gi_seq (gv 5)) (blkOk_by (by rfl)) (fun _ _ _ _ _ => (gg_name (i := 8) hnd (by rfl) (by first | exact Or.inl rfl | exact Or.inr rfl) (by first | exact Or.inl rfl | exact Or.inr rfl))) (fun _ _ _ _ _ => gts_nil) (fun _ _ _ _ _ => (ge_bin (gv 8) (gv 2))) (fun _ => rfl) (by decide))) (by rfl) (by rfl) (by rfl) B.sum)))))) (by decide) (by rfl) (by rfl)) (fun _ => rfl))))).pt
 (gs_cons (gs_ret gn_bl)
 gs_nil)
 gs_nil)
 (gs_cons (gs_if (gb_and (gb_cmp hu (by rfl) (gv 4) gn_int) (gb_and1 (gb_not (gb_truth (ge_call (by exact c_law_same.cald) (hr.mono (by decide)) tk (by rfl) (gl_more (ge_call (by exact c_law_told.cald) (hr.mono (by decide)) tk (by rfl) (gl_more gn_int (gl_more (gv 1) (gl_one gn_non))) (by decide) (by rfl) (by rfl)) (gl_one (ge_tup (gl_more gn_str (gl_one gn_str))))) (by decide) (by rfl) (by rfl)) (fun _ => rfl))))).pt
 (gs_cons (gs_ret gn_bl)
 gs_nil)
 gs_nil)
 (gs_cons (gs_for (t := (.name 3)) po (by rfl) (gi_rng1 (by rfl) B.range (by rfl) (gl_one gn_int) (sl_cons sl_nil)) (gg_name (i := 3) hnd (by rfl) (by first | exact Or.inl rfl | exact Or.inr rfl) (by first | exact Or.inl rfl | exact Or.inr rfl))
 (gs_cons (gs_asg (i := 6) (m := false) hnd (by rfl) (by first | exact Or.inl rfl | exact Or.inr rfl) (ge_bin (ge_bin (gv 4) gn_int) (ge_call (by exact c_law_take.cald) (hr.mono (by decide)) tk (by rfl) (gl_more (gv 0) (gl_one (ge_bin gn_int (gv 2)))) (by decide) (by rfl) (by rfl))) (by rfl) (.inl rfl))
 (gs_cons (gs_asg (i := 7) (m := false) hnd (by rfl) (by first | exact Or.inl rfl | exact Or.inr rfl) (ge_call (by exact c_law_told.cald) (hr.mono (by decide)) tk (by rfl) (gl_more gn_int (gl_more (gv 1) (gl_one (gv 6)))) (by decide) (by rfl) (by rfl)) (by rfl) (.inl rfl))
 (gs_cons (gs_if (gb_or (gb_cmp hu (by rfl) (ge_idx (fun _ _ => rfl) (gv 7) gn_int) gn_str) (gb_or1 (gb_not (gb_truth (ge_call (by exact c_law_says.cald) (hr.mono (by decide)) tk (by rfl) (gl_more (ge_idx (fun _ _ => rfl) (gv 7) gn_int) (gl_one (ge_and (ge_cmp hu (by rfl) (gv 6) gn_int) (ge_one1 (ge_cmp hu (by rfl) (ge_idx (fun _ _ => rfl) (gv 5) (ge_bin (gc_int (by rfl) (gl_one (gv 6)) (by rfl) (by rfl) (by rfl) B.int) (gv 2))) (gv 6)))))) (by decide) (by rfl) (by rfl)) (fun _ => rfl))))).pt
 (gs_cons (gs_ret gn_bl)
 gs_nil)
 gs_nil)
 gs_nil))) (fun _ => rfl))
 (gs_cons (gs_ret gn_bl)
 gs_nil))))))
/-! ### _law_values_right -/
abbrev st_law_values_right : Stmt := top 48
def T_law_values_right : SS :=
 (sSeq2 (sAsg 2 false (sArgs F_law_take (sCons (sVar 0) (sCons (sArgs lenOp (sCons (sVar 1) sNil)) sNil))))
 (sSeq2 (sAsg 3 false (sLst (sCons (sVar 1) (sCons (sArgs listOp (sCons (sVar 1) sNil)) (sCons (sRev (sVar 1)) (sCons (sSlice (sVar 1) none (some (sNeg (sCon (.int 1))))) (sCons (sSlice (sVar 1) (some (sCon (.int 1))) none) (sCons (sBin .Add (sVar 1) (sTup (sCons (sBin .Add (sIdx (sVar 1) (sNeg (sCon (.int 1)))) (sCon (.int 1))) sNil))) (sCons (sBin .Add (sVar 1) (sSlice (sVar 1) none (some (sCon (.int 1))))) (sCons (sBin .Add (sBin .Add (sSlice (sVar 1) none (some (sVar 2))) (sTup (sCons (sBin .Add (sIdx (sVar 1) (sVar 2)) (sCon (.int 1))) sNil))) (sSlice (sVar 1) (some (sBin .Add (sVar 2) (sCon (.int 1)))) none)) (sCons (sBin .Add (sBin .Add (sSlice (sVar 1) none (some (sVar 2))) (sTup (sCons (sCon (.int 1)) sNil))) (sSlice (sVar 1) (some (sBin .Add (sVar 2) (sCon (.int 1)))) none)) sNil)))))))))))
 (sSeq2 (sAsg 3 false (sBin .Add (sVar 3) (sLst (sCons (sArgs tupleOp (sCons (sComp (sSeq (sVar 1)) (.name 6) sYes (sBin .Mult (sCon (.int 2)) (sVar 6)) (([("x", 6)] : List (Str × Nat)).map (·.2))) sNil)) (sCons (sBin .Add (sVar 1) (sTup (sCons (sBin .Add (sIdx (sVar 1) (sCon (.int 0))) (sIdx (sVar 1) (sNeg (sCon (.int 1))))) sNil))) (sCons (sArgs tupleOp (sCons (sArgs sorted3Op (sCons (sBin .Add (sVar 1) (sTup (sCons (sBin .Add (sIdx (sVar 1) (sVar 2)) (sCon (.int 1))) sNil))) sNil)) sNil)) (sCons (sArgs tupleOp (sCons (sArgs sorted3Op (sCons (sBin .Add (sVar 1) (sTup (sCons (sBin .Add (sBin .Mult (sCon (.int 3)) (sIdx (sVar 1) (sCon (.int 0)))) (sCon (.int 1))) sNil))) sNil)) sNil)) sNil)))))))
 (sSeq2 (sFor (sSeq (sBin .Add (sBin .Add (sVar 3) (sArgs F_law_bad_lots sNil)) (sLst (sCons (sRgT (sCon (.int 12)) (sCon (.int 24))) (sCons (sRgT (sCon (.int 13)) (sCon (.int 25))) (sCons (sTup (sCons (sCon (.int 999)) (sCons (sCon (.int 1000)) sNil))) (sCons (sTup (sCons (sCon (.int 1000)) (sCons (sCon (.int 1001)) sNil))) sNil))))))) (.name 4)
 (sSeq2 (sAsg 5 false (sArgs F_law_is_lot (sCons (sVar 4) sNil)))
 (sSeq2 (sIfS (sNotB (sB (sArgs F_law_says (sCons (sArgs Fis_lot (sCons (sVar 4) sNil)) (sCons (sVar 5) sNil)))))
 (sSeq2 (sRet (sCon (.bl false)))
 sSkip)
 sSkip)
 (sSeq2 (sIfS (sAndB (sNotB (sB (sVar 5))) (sB (sCmp .NotEq (sComp (sSeq (sTup (sCons (sCon (.int 1)) (sCons (sCon (.int 2)) (sCons (sCon (.int 3)) (sCons (sCon (.int 4)) (sCons (sCon (.int 5)) sNil))))))) (.name 7) sYes (sIdx (sArgs F_law_told (sCons (sVar 7) (sCons (sVar 4) (sCons (sCon (.int 1)) sNil)))) (sCon (.int 0))) (([("which", 7)] : List (Str × Nat)).map (·.2))) (sBin .Mult (sLst (sCons (sCon (.str "malformed")) sNil)) (sCon (.int 5))))))
 (sSeq2 (sRet (sCon (.bl false)))
 sSkip)
 sSkip)
 sSkip))))
 (sSeq2 (sRet (sCon (.bl true)))
 sSkip)))))
def F_law_values_right : List AV → Mem → Out AV := fnRun 2 8 T_law_values_right
theorem sc_law_values_right : FnScope ["state", "lot", "k", "near", "value", "right", "x", "which"] ["state", "lot"] (defScope st_law_values_right) := C8.fnScope_by rfl
theorem ok_law_values_right {P : Program} {w : World} {K : PySem.W.Frag} {mg : Str → Option Value} {base : Heap} {f : Addr} {fd : FuncData} (F : Fun K "_law_values_right" "_law_values_right" st_law_values_right f fd) (B : Bn mg) (c_law_bad_lots : CalD P w K mg base 1 "_law_bad_lots" F_law_bad_lots) (c_law_is_lot : CalD P w K mg base 2 "_law_is_lot" F_law_is_lot) (c_law_says : CalD P w K mg base 1 "_law_says" F_law_says) (c_law_take : CalD P w K mg base 1 "_law_take" F_law_take) (c_law_told : CalD P w K mg base 10 "_law_told" F_law_told) (cis_lot : CalD P w K mg base 3 "is_lot" Fis_lot) : FnOk P w K mg base (L2.CX P w) 11 f fd ["state", "lot"] (spOf ⟨K, mg⟩ F_law_values_right) := by
  refine fn_ok (N := ["state", "lot", "k", "near", "value", "right", "x", "which"]) F sc_law_values_right (fun cdv A outer s H E hr => ?_)
  have hnd : (["state", "lot", "k", "near", "value", "right", "x", "which"] : List Str).Nodup := sc_law_values_right.nd
  have hu : (A.deeper (envOfC "_law_values_right" (defScope st_law_values_right) s.heap.objs.size f cdv)).units + 65 < cLine := by have := hr.un; omega
  have tk : Takes (cxf P w K mg base ["state", "lot", "k", "near", "value", "right", "x", "which"] "_law_values_right" st_law_values_right f cdv A outer s H E) (fun cls d _ H' => E cls d H') := takes_of rfl rfl rfl rfl
  have po : PassesOwn (model P w) (cxf P w K mg base ["state", "lot", "k", "near", "value", "right", "x", "which"] "_law_values_right" st_law_values_right f cdv A outer s H E).A (cxf P w K mg base ["state", "lot", "k", "near", "value", "right", "x", "which"] "_law_values_right" st_law_values_right f cdv A outer s H E).env (cxf P w K mg base ["state", "lot", "k", "near", "value", "right", "x", "which"] "_law_values_right" st_law_values_right f cdv A outer s H E).xe := passes_of rfl
  exact (gs_cons (gs_asg (i := 2) (m := false) hnd (by rfl) (by first | exact Or.inl rfl | exact Or.inr rfl) (ge_call (by exact c_law_take.cald) (hr.mono (by decide)) tk (by rfl) (gl_more (gv 0) (gl_one (gc_len (by rfl) (gl_one (gv 1)) (by rfl) (by rfl) (by rfl) B.len))) (by decide) (by rfl) (by rfl)) (by rfl) (.inl rfl))
 (gs_cons (gs_asg (i := 3) (m := false) hnd (by rfl) (by first | exact Or.inl rfl | exact Or.inr rfl) (ge_lst (gl_more (gv 1) (gl_more (gc_list (by rfl) (gl_one (gv 1)) (by rfl) (by rfl) (by rfl) B.list) (gl_more (ge_rev (gv 1)) (gl_more (gk_01 (gv 1) (ge_neg gn_int)) (gl_more (gk_10 (gv 1) gn_int) (gl_more (ge_bin (gv 1) (ge_tup (gl_one (ge_bin (ge_idx (fun _ _ => rfl) (gv 1) (ge_neg gn_int)) gn_int)))) (gl_more (ge_bin (gv 1) (gk_01 (gv 1) gn_int)) (gl_more (ge_bin (ge_bin (gk_01 (gv 1) (gv 2)) (ge_tup (gl_one (ge_bin (ge_idx (fun _ _ => rfl) (gv 1) (gv 2)) gn_int)))) (gk_10 (gv 1) (ge_bin (gv 2) gn_int))) (gl_one (ge_bin (ge_bin (gk_01 (gv 1) (gv 2)) (ge_tup (gl_one gn_int))) (gk_10 (gv 1) (ge_bin (gv 2) gn_int))))))))))))) (by rfl) (.inl rfl))
 (gs_cons (gs_asg (i := 3) (m := false) hnd (by rfl) (by first | exact Or.inl rfl | exact Or.inr rfl) (ge_bin (gv 3) (ge_lst (gl_more (gc_tuple (by rfl) (gl_one (ge_comp (own := [("x", 6)]) (t := (.name 6)) (by rfl) hnd (gi_seq (gv 1)) (blkOk_by (by rfl)) (fun _ _ _ _ _ => (gg_name (i := 6) hnd (by rfl) (by first | exact Or.inl rfl | exact Or.inr rfl) (by first | exact Or.inl rfl | exact Or.inr rfl))) (fun _ _ _ _ _ => gts_nil) (fun _ _ _ _ _ => (ge_bin gn_int (gv 6))) (fun _ => rfl) (by decide))) (by rfl) (by rfl) (by rfl) B.tuple) (gl_more (ge_bin (gv 1) (ge_tup (gl_one (ge_bin (ge_idx (fun _ _ => rfl) (gv 1) gn_int) (ge_idx (fun _ _ => rfl) (gv 1) (ge_neg gn_int)))))) (gl_more (gc_tuple (by rfl) (gl_one (gc_sorted3 hu (by rfl) (gl_one (ge_bin (gv 1) (ge_tup (gl_one (ge_bin (ge_idx (fun _ _ => rfl) (gv 1) (gv 2)) gn_int))))) (by rfl) (by rfl) (by rfl) B.sorted)) (by rfl) (by rfl) (by rfl) B.tuple) (gl_one (gc_tuple (by rfl) (gl_one (gc_sorted3 hu (by rfl) (gl_one (ge_bin (gv 1) (ge_tup (gl_one (ge_bin (ge_bin gn_int (ge_idx (fun _ _ => rfl) (gv 1) gn_int)) gn_int))))) (by rfl) (by rfl) (by rfl) B.sorted)) (by rfl) (by rfl) (by rfl) B.tuple))))))) (by rfl) (.inl rfl))
 (gs_cons (gs_for (t := (.name 4)) po (by rfl) (gi_seq (ge_bin (ge_bin (gv 3) (ge_call0 (by exact c_law_bad_lots.cald) (hr.mono (by decide)) tk (by rfl) (by decide))) (ge_lst (gl_more (ge_rgT (by rfl) (by rfl) B.tuple (by rfl) B.range gn_int gn_int (by rfl) (by rfl) (by rfl) (by rfl)) (gl_more (ge_rgT (by rfl) (by rfl) B.tuple (by rfl) B.range gn_int gn_int (by rfl) (by rfl) (by rfl) (by rfl)) (gl_more (ge_tup (gl_more gn_int (gl_one gn_int))) (gl_one (ge_tup (gl_more gn_int (gl_one gn_int)))))))))) (gg_name (i := 4) hnd (by rfl) (by first | exact Or.inl rfl | exact Or.inr rfl) (by first | exact Or.inl rfl | exact Or.inr rfl))
 (gs_cons (gs_asg (i := 5) (m := false) hnd (by rfl) (by first | exact Or.inl rfl | exact Or.inr rfl) (ge_call (by exact c_law_is_lot.cald) (hr.mono (by decide)) tk (by rfl) (gl_one (gv 4)) (by decide) (by rfl) (by rfl)) (by rfl) (.inl rfl))
 (gs_cons (gs_if (gb_not (gb_truth (ge_call (by exact c_law_says.cald) (hr.mono (by decide)) tk (by rfl) (gl_more (ge_call (by exact cis_lot.cald) (hr.mono (by decide)) tk (by rfl) (gl_one (gv 4)) (by decide) (by rfl) (by rfl)) (gl_one (gv 5))) (by decide) (by rfl) (by rfl)) (fun _ => rfl)))
 (gs_cons (gs_ret gn_bl)
 gs_nil)
 gs_nil)
 (gs_cons (gs_if (gb_and (gb_not (gb_truth (gv 5) (fun _ => rfl))) (gb_and1 (gb_cmp hu (by rfl) (ge_comp (own := [("which", 7)]) (t := (.name 7)) (by rfl) hnd (gi_seq (ge_tup (gl_more gn_int (gl_more gn_int (gl_more gn_int (gl_more gn_int (gl_one gn_int))))))) (blkOk_by (by rfl)) (fun _ _ _ _ _ => (gg_name (i := 7) hnd (by rfl) (by first | exact Or.inl rfl | exact Or.inr rfl) (by first | exact Or.inl rfl | exact Or.inr rfl))) (fun _ _ _ _ _ => gts_nil) (fun _ _ _ _ _ => (ge_idx (fun _ _ => rfl) (ge_call (by exact c_law_told.cald) (hr.mono (by decide)) takesW (by rfl) (gl_more (gv 7) (gl_more (gv 4) (gl_one gn_int))) (by decide) (by rfl) (by rfl)) gn_int)) (fun _ => rfl) (by decide)) (ge_bin (ge_lst (gl_one gn_str)) gn_int)))).pt
 (gs_cons (gs_ret gn_bl)
 gs_nil)
 gs_nil)
 gs_nil))) (fun _ => rfl))
 (gs_cons (gs_ret gn_bl)
 gs_nil)))))
/-! ### _law_of_right -/
abbrev st_law_of_right : Stmt := top 49
def T_law_of_right : SS :=
 (sSeq2 (sAsg 1 false (sComp (sRng (sCons (sBin .Add (sCon (.int 1)) (sArgs F_law_take (sCons (sVar 0) (sCons (sIdx (sLst (sCons (sCon (.int 3)) (sCons (sCon (.int 8)) (sCons (sCon (.int 60)) sNil)))) (sArgs F_law_take (sCons (sVar 0) (sCons (sCon (.int 3)) sNil)))) sNil)))) sNil)) (.name 6) sYes (sBin .Add (sCon (.int 1)) (sArgs F_law_take (sCons (sVar 0) (sCons (sIdx (sLst (sCons (sCon (.int 12)) (sCons (sCon (.int 60)) (sCons (sCon (.int 1000)) sNil)))) (sArgs F_law_take (sCons (sVar 0) (sCons (sCon (.int 3)) sNil)))) sNil)))) (([("k", 6)] : List (Str × Nat)).map (·.2))))
 (sSeq2 (sFor (sSeq (sLst (sCons (sArgs tupleOp (sCons (sVar 1) sNil)) (sCons (sArgs tupleOp (sCons (sBin .Add (sSlice (sVar 1) none (some (sCon (.int 59)))) (sSlice (sVar 1) none (some (sCon (.int 1))))) sNil)) (sCons (sRgT (sCon (.int 13)) (sCon (.int 26))) (sCons (sRgT (sCon (.int 12)) (sCon (.int 24))) (sCons (sTup (sCons (sCon (.int 6)) (sCons (sCon (.int 4)) (sCons (sCon (.int 10)) sNil)))) (sCons (sTup (sCons (sCon (.int 1)) sNil)) (sCons (sTup (sCons (sCon (.int 1000)) (sCons (sCon (.int 999)) sNil))) (sCons (sArgs tupleOp (sCons (sBin .Add (sComp (sSeq (sSlice (sVar 1) none (some (sCon (.int 59))))) (.name 7) (sB (sCmp .Lt (sVar 7) (sCon (.int 501)))) (sBin .Mult (sCon (.int 2)) (sVar 7)) (([("x", 7)] : List (Str × Nat)).map (·.2))) (sLst (sCons (sCon (.int 2)) sNil))) sNil)) sNil)))))))))) (.name 2)
 (sSeq2 (sAsg 4 false (sArgs F_law_least (sCons (sVar 2) sNil)))
 (sSeq2 (sAsg 5 false (sTup (sCons (sCon (.str "told")) (sCons (sVar 4) sNil))))
 (sSeq2 (sIfS (sB (sCmp .Gt (sArgs F_law_gcd (sCons (sVar 2) sNil)) (sCon (.int 1))))
 (sSeq2 (sAsg 5 false (sTup (sCons (sCon (.str "refused")) (sCons (sCon (.str "common")) sNil))))
 sSkip)
 (sSeq2 (sIfS (sB (sCmp .Gt (sArgs lenOp (sCons (sVar 4) sNil)) (sCon (.int 12))))
 (sSeq2 (sAsg 5 false (sTup (sCons (sCon (.str "refused")) (sCons (sCon (.str "large")) sNil))))
 sSkip)
 sSkip)
 sSkip))
 (sSeq2 (sIfS (sNotB (sB (sArgs (F_law_same 8) (sCons (sArgs F_law_told (sCons (sCon (.int 0)) (sCons (sVar 2) (sCons (sCon .non) sNil)))) (sCons (sVar 5) sNil)))))
 (sSeq2 (sRet (sCon (.bl false)))
 sSkip)
 sSkip)
 sSkip)))))
 (sSeq2 (sFor (sSeq (sLst (sCons (sCon .non) (sCons (sCon (.int 5)) (sCons (sTup sNil) (sCons (sLst (sCons (sCon (.int 2)) (sCons (sCon (.int 3)) sNil))) (sCons (sTup (sCons (sCon (.int 0)) sNil)) (sCons (sTup (sCons (sNeg (sCon (.int 1))) sNil)) (sCons (sTup (sCons (sCon (.int 1001)) sNil)) (sCons (sTup (sCons (sCon (.bl true)) sNil)) (sCons (sTup (sCons (sCon (.str "2")) sNil)) (sCons (sTup (sCons (sCon (.int 2)) (sCons (sCon .non) sNil))) (sCons (sBin .Mult (sTup (sCons (sCon (.int 1)) sNil)) (sCon (.int 61))) sNil))))))))))))) (.name 3)
 (sSeq2 (sIfS (sB (sCmp .NotEq (sIdx (sArgs F_law_told (sCons (sCon (.int 0)) (sCons (sVar 3) (sCons (sCon .non) sNil)))) (sCon (.int 0))) (sCon (.str "malformed"))))
 (sSeq2 (sRet (sCon (.bl false)))
 sSkip)
 sSkip)
 sSkip))
 (sSeq2 (sRet (sCon (.bl true)))
 sSkip))))
def F_law_of_right : List AV → Mem → Out AV := fnRun 1 8 T_law_of_right
theorem sc_law_of_right : FnScope ["state", "items", "given", "bad", "least", "due", "k", "x"] ["state"] (defScope st_law_of_right) := C8.fnScope_by rfl
theorem ok_law_of_right {P : Program} {w : World} {K : PySem.W.Frag} {mg : Str → Option Value} {base : Heap} {f : Addr} {fd : FuncData} (F : Fun K "_law_of_right" "_law_of_right" st_law_of_right f fd) (B : Bn mg) (c_law_gcd : CalD P w K mg base 1 "_law_gcd" F_law_gcd) (c_law_least : CalD P w K mg base 1 "_law_least" F_law_least) (c_law_same : CalD P w K mg base 9 "_law_same" (F_law_same 8)) (c_law_take : CalD P w K mg base 1 "_law_take" F_law_take) (c_law_told : CalD P w K mg base 10 "_law_told" F_law_told) : FnOk P w K mg base (L2.CX P w) 11 f fd ["state"] (spOf ⟨K, mg⟩ F_law_of_right) := by
  refine fn_ok (N := ["state", "items", "given", "bad", "least", "due", "k", "x"]) F sc_law_of_right (fun cdv A outer s H E hr => ?_)
  have hnd : (["state", "items", "given", "bad", "least", "due", "k", "x"] : List Str).Nodup := sc_law_of_right.nd
  have hu : (A.deeper (envOfC "_law_of_right" (defScope st_law_of_right) s.heap.objs.size f cdv)).units + 65 < cLine := by have := hr.un; omega
  have tk : Takes (cxf P w K mg base ["state", "items", "given", "bad", "least", "due", "k", "x"] "_law_of_right" st_law_of_right f cdv A outer s H E) (fun cls d _ H' => E cls d H') := takes_of rfl rfl rfl rfl
  have po : PassesOwn (model P w) (cxf P w K mg base ["state", "items", "given", "bad", "least", "due", "k", "x"] "_law_of_right" st_law_of_right f cdv A outer s H E).A (cxf P w K mg base ["state", "items", "given", "bad", "least", "due", "k", "x"] "_law_of_right" st_law_of_right f cdv A outer s H E).env (cxf P w K mg base ["state", "items", "given", "bad", "least", "due", "k", "x"] "_law_of_right" st_law_of_right f cdv A outer s H E).xe := passes_of rfl
  exact (gs_cons (gs_asgLc (i := 1) (m := false) (own := [("k", 6)]) (t := (.name 6)) (by rfl) hnd (by rfl) (by rfl) (by rfl) (gi_rng1 (by rfl) B.range (by rfl) (gl_one (ge_bin gn_int (ge_call (by exact c_law_take.cald) (hr.mono (by decide)) tk (by rfl) (gl_more (gv 0) (gl_one (ge_idx (fun _ _ => rfl) (ge_lst (gl_more gn_int (gl_more gn_int (gl_one gn_int)))) (ge_call (by exact c_law_take.cald) (hr.mono (by decide)) tk (by rfl) (gl_more (gv 0) (gl_one gn_int)) (by decide) (by rfl) (by rfl))))) (by decide) (by rfl) (by rfl)))) (sl_cons sl_nil)) (blkOk_by (by rfl)) (fun _ _ _ _ _ => (gg_name (i := 6) hnd (by rfl) (by first | exact Or.inl rfl | exact Or.inr rfl) (by first | exact Or.inl rfl | exact Or.inr rfl))) (fun _ _ _ _ _ => gts_nil) (fun _ _ _ _ _ => (ge_bin gn_int (ge_call (by exact c_law_take.cald) (hr.mono (by decide)) takesW (by rfl) (gl_more (gv 0) (gl_one (ge_idx (fun _ _ => rfl) (ge_lst (gl_more gn_int (gl_more gn_int (gl_one gn_int)))) (ge_call (by exact c_law_take.cald) (hr.mono (by decide)) takesW (by rfl) (gl_more (gv 0) (gl_one gn_int)) (by decide) (by rfl) (by rfl))))) (by decide) (by rfl) (by rfl)))) (fun _ => rfl) (by decide))
 (gs_cons (gs_for (t := (.name 2)) po (by rfl) (gi_seq (ge_lst (gl_more (gc_tuple (by rfl) (gl_one (gv 1)) (by rfl) (by rfl) (by rfl) B.tuple) (gl_more (gc_tuple (by rfl) (gl_one (ge_bin (gk_01 (gv 1) gn_int) (gk_01 (gv 1) gn_int))) (by rfl) (by rfl) (by rfl) B.tuple) (gl_more (ge_rgT (by rfl) (by rfl) B.tuple (by rfl) B.range gn_int gn_int (by rfl) (by rfl) (by rfl) (by rfl)) (gl_more (ge_rgT (by rfl) (by rfl) B.tuple (by rfl) B.range gn_int gn_int (by rfl) (by rfl) (by rfl) (by rfl)) (gl_more (ge_tup (gl_more gn_int (gl_more gn_int (gl_one gn_int)))) (gl_more (ge_tup (gl_one gn_int)) (gl_more (ge_tup (gl_more gn_int (gl_one gn_int))) (gl_one (gc_tuple (by rfl) (gl_one (ge_bin (ge_comp (own := [("x", 7)]) (t := (.name 7)) (by rfl) hnd (gi_seq (gk_01 (gv 1) gn_int)) (blkOk_by (by rfl)) (fun _ _ _ _ _ => (gg_name (i := 7) hnd (by rfl) (by first | exact Or.inl rfl | exact Or.inr rfl) (by first | exact Or.inl rfl | exact Or.inr rfl))) (fun _ _ _ _ _ => gts_one (gb_cmp hu (by rfl) (gv 7) gn_int)) (fun _ _ _ _ _ => (ge_bin gn_int (gv 7))) (fun _ => rfl) (by decide)) (ge_lst (gl_one gn_int)))) (by rfl) (by rfl) (by rfl) B.tuple))))))))))) (gg_name (i := 2) hnd (by rfl) (by first | exact Or.inl rfl | exact Or.inr rfl) (by first | exact Or.inl rfl | exact Or.inr rfl))
 (gs_cons (gs_asg (i := 4) (m := false) hnd (by rfl) (by first | exact Or.inl rfl | exact Or.inr rfl) (ge_call (by exact c_law_least.cald) (hr.mono (by decide)) tk (by rfl) (gl_one (gv 2)) (by decide) (by rfl) (by rfl)) (by rfl) (.inl rfl))
 (gs_cons (gs_asg (i := 5) (m := false) hnd (by rfl) (by first | exact Or.inl rfl | exact Or.inr rfl) (ge_tup (gl_more gn_str (gl_one (gv 4)))) (by rfl) (.inl rfl))
 (gs_cons (gs_if (gb_cmp hu (by rfl) (ge_call (by exact c_law_gcd.cald) (hr.mono (by decide)) tk (by rfl) (gl_one (gv 2)) (by decide) (by rfl) (by rfl)) gn_int)
 (gs_cons (gs_asg (i := 5) (m := false) hnd (by rfl) (by first | exact Or.inl rfl | exact Or.inr rfl) (ge_tup (gl_more gn_str (gl_one gn_str))) (by rfl) (.inl rfl))
 gs_nil)
 (gs_cons (gs_if (gb_cmp hu (by rfl) (gc_len (by rfl) (gl_one (gv 4)) (by rfl) (by rfl) (by rfl) B.len) gn_int)
 (gs_cons (gs_asg (i := 5) (m := false) hnd (by rfl) (by first | exact Or.inl rfl | exact Or.inr rfl) (ge_tup (gl_more gn_str (gl_one gn_str))) (by rfl) (.inl rfl))
 gs_nil)
 gs_nil)
 gs_nil))
 (gs_cons (gs_if (gb_not (gb_truth (ge_call (by exact c_law_same.cald) (hr.mono (by decide)) tk (by rfl) (gl_more (ge_call (by exact c_law_told.cald) (hr.mono (by decide)) tk (by rfl) (gl_more gn_int (gl_more (gv 2) (gl_one gn_non))) (by decide) (by rfl) (by rfl)) (gl_one (gv 5))) (by decide) (by rfl) (by rfl)) (fun _ => rfl)))
 (gs_cons (gs_ret gn_bl)
 gs_nil)
 gs_nil)
 gs_nil)))) (fun _ => rfl))
 (gs_cons (gs_for (t := (.name 3)) po (by rfl) (gi_seq (ge_lst (gl_more gn_non (gl_more gn_int (gl_more (ge_tup gl_nil) (gl_more (ge_lst (gl_more gn_int (gl_one gn_int))) (gl_more (ge_tup (gl_one gn_int)) (gl_more (ge_tup (gl_one (ge_neg gn_int))) (gl_more (ge_tup (gl_one gn_int)) (gl_more (ge_tup (gl_one gn_bl)) (gl_more (ge_tup (gl_one gn_str)) (gl_more (ge_tup (gl_more gn_int (gl_one gn_non))) (gl_one (ge_bin (ge_tup (gl_one gn_int)) gn_int)))))))))))))) (gg_name (i := 3) hnd (by rfl) (by first | exact Or.inl rfl | exact Or.inr rfl) (by first | exact Or.inl rfl | exact Or.inr rfl))
 (gs_cons (gs_if (gb_cmp hu (by rfl) (ge_idx (fun _ _ => rfl) (ge_call (by exact c_law_told.cald) (hr.mono (by decide)) tk (by rfl) (gl_more gn_int (gl_more (gv 3) (gl_one gn_non))) (by decide) (by rfl) (by rfl)) gn_int) gn_str)
 (gs_cons (gs_ret gn_bl)
 gs_nil)
 gs_nil)
 gs_nil) (fun _ => rfl))
 (gs_cons (gs_ret gn_bl)
 gs_nil))))
/-! ### law -/
abbrev stlaw : Stmt := top 50
def Tlaw : SS :=
 (sSeq2 (sAsg 1 true (sArgs F_law_state (sCons (sVar 0) sNil)))
 (sSeq2 (sAsg 2 false (sArgs F_law_lot (sCons (sVar 1) (sCons (sCon (.int 6)) (sCons (sCon (.int 30)) sNil)))))
 (sSeq2 (sAsg 3 false (sArgs F_law_lot (sCons (sVar 1) (sCons (sCon (.int 8)) (sCons (sCon (.int 1000)) sNil)))))
 (sSeq2 (sIfS (sOrB (sB (sCmp .Gt (sArgs lenOp (sCons (sVar 3) sNil)) (sCon (.int 12)))) (sB (sCmp .Gt (sIdx (sVar 3) (sCon (.int 0))) (sCon (.int 400)))))
 (sSeq2 (sAsg 3 false (sTup (sCons (sCon (.int 40)) (sCons (sCon (.int 61)) (sCons (sCon (.int 83)) sNil)))))
 sSkip)
 sSkip)
 (sSeq2 (sIfS (sOrB (sNotB (sB (sArgs F_law_small_right (sCons (sVar 1) (sCons (sVar 2) sNil))))) (sNotB (sB (sArgs F_law_small_right (sCons (sVar 1) (sCons (sTup (sCons (sCon (.int 1)) sNil)) sNil))))))
 (sSeq2 (sRet (sCon (.bl false)))
 sSkip)
 sSkip)
 (sSeq2 (sIfS (sOrB (sNotB (sB (sArgs F_law_great_right (sCons (sVar 1) (sCons (sVar 3) sNil))))) (sNotB (sB (sArgs F_law_great_right (sCons (sVar 1) (sCons (sTup (sCons (sCon (.int 300)) (sCons (sIdx (sLst (sCons (sCon (.int 601)) (sCons (sCon (.int 607)) (sCons (sCon (.int 613)) (sCons (sCon (.int 619)) (sCons (sCon (.int 631)) (sCons (sCon (.int 643)) sNil))))))) (sArgs F_law_take (sCons (sVar 1) (sCons (sCon (.int 6)) sNil)))) sNil))) sNil))))))
 (sSeq2 (sRet (sCon (.bl false)))
 sSkip)
 sSkip)
 (sSeq2 (sFor (sSeq (sLst (sCons (sCon .non) (sCons (sCon (.str "1")) (sCons (sCon (.bl true)) (sCons (sTup (sCons (sCon (.int 1)) sNil)) (sCons (sLst (sCons (sCon (.int 2)) sNil)) sNil))))))) (.name 4)
 (sSeq2 (sIfS (sOrB (sB (sCmp .NotEq (sIdx (sArgs F_law_told (sCons (sCon (.int 4)) (sCons (sVar 2) (sCons (sVar 4) sNil)))) (sCon (.int 0))) (sCon (.str "malformed")))) (sB (sCmp .NotEq (sIdx (sArgs F_law_told (sCons (sCon (.int 5)) (sCons (sVar 2) (sCons (sVar 4) sNil)))) (sCon (.int 0))) (sCon (.str "malformed")))))
 (sSeq2 (sRet (sCon (.bl false)))
 sSkip)
 sSkip)
 sSkip))
 (sSeq2 (sIfS (sB (sCmp .NotEq (sComp (sSeq (sTup (sCons (sCon (.int 0)) (sCons (sNeg (sIdx (sVar 2) (sCon (.int 0)))) (sCons (sCon (.int 1001)) sNil))))) (.name 4) sYes (sIdx (sArgs F_law_told (sCons (sCon (.int 5)) (sCons (sVar 2) (sCons (sVar 4) sNil)))) (sCon (.int 0))) (([("bad", 4)] : List (Str × Nat)).map (·.2))) (sBin .Mult (sLst (sCons (sCon (.str "malformed")) sNil)) (sCon (.int 3)))))
 (sSeq2 (sRet (sCon (.bl false)))
 sSkip)
 sSkip)
 (sSeq2 (sRet (sAnd (sArgs F_law_values_right (sCons (sVar 1) (sCons (sVar 2) sNil))) (sArgs F_law_of_right (sCons (sVar 1) sNil))))
 sSkip)))))))))
def Flaw : List AV → Mem → Out AV := fnRun 1 5 Tlaw
theorem sclaw : FnScope ["script", "state", "lot", "great", "bad"] ["script"] (defScope stlaw) := C8.fnScope_by rfl
theorem oklaw {P : Program} {w : World} {K : PySem.W.Frag} {mg : Str → Option Value} {base : Heap} {f : Addr} {fd : FuncData} (F : Fun K "law" "law" stlaw f fd) (B : Bn mg) (c_law_great_right : CalD P w K mg base 11 "_law_great_right" F_law_great_right) (c_law_lot : CalD P w K mg base 2 "_law_lot" F_law_lot) (c_law_of_right : CalD P w K mg base 11 "_law_of_right" F_law_of_right) (c_law_small_right : CalD P w K mg base 11 "_law_small_right" F_law_small_right) (c_law_state : CalD P w K mg base 1 "_law_state" F_law_state) (c_law_take : CalD P w K mg base 1 "_law_take" F_law_take) (c_law_told : CalD P w K mg base 10 "_law_told" F_law_told) (c_law_values_right : CalD P w K mg base 11 "_law_values_right" F_law_values_right) : FnOk P w K mg base (L2.CX P w) 12 f fd ["script"] (spOf ⟨K, mg⟩ Flaw) := by
  refine fn_ok (N := ["script", "state", "lot", "great", "bad"]) F sclaw (fun cdv A outer s H E hr => ?_)
  have hnd : (["script", "state", "lot", "great", "bad"] : List Str).Nodup := sclaw.nd
  have hu : (A.deeper (envOfC "law" (defScope stlaw) s.heap.objs.size f cdv)).units + 65 < cLine := by have := hr.un; omega
  have tk : Takes (cxf P w K mg base ["script", "state", "lot", "great", "bad"] "law" stlaw f cdv A outer s H E) (fun cls d _ H' => E cls d H') := takes_of rfl rfl rfl rfl
  have po : PassesOwn (model P w) (cxf P w K mg base ["script", "state", "lot", "great", "bad"] "law" stlaw f cdv A outer s H E).A (cxf P w K mg base ["script", "state", "lot", "great", "bad"] "law" stlaw f cdv A outer s H E).env (cxf P w K mg base ["script", "state", "lot", "great", "bad"] "law" stlaw f cdv A outer s H E).xe := passes_of rfl
  exact (gs_cons (gs_asg (i := 1) (m := true) hnd (by rfl) (by first | exact Or.inl rfl | exact Or.inr rfl) (ge_call (by exact c_law_state.cald) (hr.mono (by decide)) tk (by rfl) (gl_one (gv 0)) (by decide) (by rfl) (by rfl)) (by rfl) (.inl rfl))
 (gs_cons (gs_asg (i := 2) (m := false) hnd (by rfl) (by first | exact Or.inl rfl | exact Or.inr rfl) (ge_call (by exact c_law_lot.cald) (hr.mono (by decide)) tk (by rfl) (gl_more (gv 1) (gl_more gn_int (gl_one gn_int))) (by decide) (by rfl) (by rfl)) (by rfl) (.inl rfl))
 (gs_cons (gs_asg (i := 3) (m := false) hnd (by rfl) (by first | exact Or.inl rfl | exact Or.inr rfl) (ge_call (by exact c_law_lot.cald) (hr.mono (by decide)) tk (by rfl) (gl_more (gv 1) (gl_more gn_int (gl_one gn_int))) (by decide) (by rfl) (by rfl)) (by rfl) (.inl rfl))
 (gs_cons (gs_if (gb_or (gb_cmp hu (by rfl) (gc_len (by rfl) (gl_one (gv 3)) (by rfl) (by rfl) (by rfl) B.len) gn_int) (gb_or1 (gb_cmp hu (by rfl) (ge_idx (fun _ _ => rfl) (gv 3) gn_int) gn_int))).pt
 (gs_cons (gs_asg (i := 3) (m := false) hnd (by rfl) (by first | exact Or.inl rfl | exact Or.inr rfl) (ge_tup (gl_more gn_int (gl_more gn_int (gl_one gn_int)))) (by rfl) (.inl rfl))
 gs_nil)
 gs_nil)
 (gs_cons (gs_if (gb_or (gb_not (gb_truth (ge_call (by exact c_law_small_right.cald) (hr.mono (by decide)) tk (by rfl) (gl_more (gv 1) (gl_one (gv 2))) (by decide) (by rfl) (by rfl)) (fun _ => rfl))) (gb_or1 (gb_not (gb_truth (ge_call (by exact c_law_small_right.cald) (hr.mono (by decide)) tk (by rfl) (gl_more (gv 1) (gl_one (ge_tup (gl_one gn_int)))) (by decide) (by rfl) (by rfl)) (fun _ => rfl))))).pt
 (gs_cons (gs_ret gn_bl)
 gs_nil)
 gs_nil)
 (gs_cons (gs_if (gb_or (gb_not (gb_truth (ge_call (by exact c_law_great_right.cald) (hr.mono (by decide)) tk (by rfl) (gl_more (gv 1) (gl_one (gv 3))) (by decide) (by rfl) (by rfl)) (fun _ => rfl))) (gb_or1 (gb_not (gb_truth (ge_call (by exact c_law_great_right.cald) (hr.mono (by decide)) tk (by rfl) (gl_more (gv 1) (gl_one (ge_tup (gl_more gn_int (gl_one (ge_idx (fun _ _ => rfl) (ge_lst (gl_more gn_int (gl_more gn_int (gl_more gn_int (gl_more gn_int (gl_more gn_int (gl_one gn_int))))))) (ge_call (by exact c_law_take.cald) (hr.mono (by decide)) tk (by rfl) (gl_more (gv 1) (gl_one gn_int)) (by decide) (by rfl) (by rfl)))))))) (by decide) (by rfl) (by rfl)) (fun _ => rfl))))).pt
 (gs_cons (gs_ret gn_bl)
 gs_nil)
 gs_nil)
 (gs_cons (gs_for (t := (.name 4)) po (by rfl) (gi_seq (ge_lst (gl_more gn_non (gl_more gn_str (gl_more gn_bl (gl_more (ge_tup (gl_one gn_int)) (gl_one (ge_lst (gl_one gn_int))))))))) (gg_name (i := 4) hnd (by rfl) (by first | exact Or.inl rfl | exact Or.inr rfl) (by first | exact Or.inl rfl | exact Or.inr rfl))
 (gs_cons (gs_if (gb_or (gb_cmp hu (by rfl) (ge_idx (fun _ _ => rfl) (ge_call (by exact c_law_told.cald) (hr.mono (by decide)) tk (by rfl) (gl_more gn_int (gl_more (gv 2) (gl_one (gv 4)))) (by decide) (by rfl) (by rfl)) gn_int) gn_str) (gb_or1 (gb_cmp hu (by rfl) (ge_idx (fun _ _ => rfl) (ge_call (by exact c_law_told.cald) (hr.mono (by decide)) tk (by rfl) (gl_more gn_int (gl_more (gv 2) (gl_one (gv 4)))) (by decide) (by rfl) (by rfl)) gn_int) gn_str))).pt
 (gs_cons (gs_ret gn_bl)
 gs_nil)
 gs_nil)
 gs_nil) (fun _ => rfl))
 (gs_cons (gs_if (gb_cmp hu (by rfl) (ge_comp (own := [("bad", 4)]) (t := (.name 4)) (by rfl) hnd (gi_seq (ge_tup (gl_more gn_int (gl_more (ge_neg (ge_idx (fun _ _ => rfl) (gv 2) gn_int)) (gl_one gn_int))))) (blkOk_by (by rfl)) (fun _ _ _ _ _ => (gg_name (i := 4) hnd (by rfl) (by first | exact Or.inl rfl | exact Or.inr rfl) (by first | exact Or.inl rfl | exact Or.inr rfl))) (fun _ _ _ _ _ => gts_nil) (fun _ _ _ _ _ => (ge_idx (fun _ _ => rfl) (ge_call (by exact c_law_told.cald) (hr.mono (by decide)) takesW (by rfl) (gl_more gn_int (gl_more (gv 2) (gl_one (gv 4)))) (by decide) (by rfl) (by rfl)) gn_int)) (fun _ => rfl) (by decide)) (ge_bin (ge_lst (gl_one gn_str)) gn_int))
 (gs_cons (gs_ret gn_bl)
 gs_nil)
 gs_nil)
 (gs_cons (gs_ret (ge_and (ge_call (by exact c_law_values_right.cald) (hr.mono (by decide)) tk (by rfl) (gl_more (gv 1) (gl_one (gv 2))) (by decide) (by rfl) (by rfl)) (ge_one1 (ge_call (by exact c_law_of_right.cald) (hr.mono (by decide)) tk (by rfl) (gl_one (gv 1)) (by decide) (by rfl) (by rfl)))))
 gs_nil)))))))))
local macro_rules | `(tactic| wtm_at "mpl") => `(tactic| first | (simp only [List.length_append, List.length_map, List.length_cons, List.length_nil, List.length_take, List.length_drop, List.length_reverse, List.length_replicate]; omega))
local macro_rules | `(tactic| wtm_at "mpA") => `(tactic| first | ((with_reducible refine g_el ?_); (first | ((with_reducible refine g_av ?_); (first | (with_reducible refine e_con ?_) | ((with_reducible apply e_var); rfl) | ((with_reducible apply e_varC); rfl) | (with_reducible refine e_args ?_) | (with_reducible refine e_bin ?_) | (with_reducible refine e_cmp ?_) | (with_reducible refine e_idx ?_) | (with_reducible refine e_ok ?_) | (with_reducible refine e_iff ?_) | (with_reducible refine e_tup ?_) | (with_reducible refine e_lst ?_) | (with_reducible refine e_and ?_) | (with_reducible refine e_or ?_) | (with_reducible refine e_not ?_) | (with_reducible refine e_chain ?_) | (with_reducible refine e_neg ?_) | (with_reducible refine e_isi ?_) | (with_reducible refine e_slice ?_) | (with_reducible refine e_inD ?_) | (with_reducible refine e_meth ?_) | (with_reducible refine e_comp ?_) | (with_reducible refine e_callV ?_) | (with_reducible refine e_rev ?_) | ((with_reducible apply e_varS); rfl))) | ((with_reducible refine g_fl ?_); (first | (with_reducible refine e_seq ?_) | (with_reducible refine e_asg ?_) | (with_reducible refine e_ok ?_) | (with_reducible refine e_skip ?_) | (with_reducible refine e_ifS ?_) | (with_reducible refine e_expr ?_) | (with_reducible refine e_ret ?_) | (with_reducible refine e_for ?_) | (with_reducible refine e_retN ?_) | (with_reducible refine e_brk ?_) | (with_reducible refine e_cont ?_) | (with_reducible refine e_raise ?_) | (with_reducible refine e_tryS ?_) | (with_reducible refine e_asgT ?_) | (with_reducible refine e_par2 ?_) | (with_reducible refine e_par3 ?_) | (with_reducible refine e_setI ?_) | (with_reducible refine e_newD ?_) | (with_reducible refine e_putD ?_) | ((with_reducible apply e_aug); rfl))) | ((with_reducible refine g_ls ?_); (first | (with_reducible refine l_cons ?_) | (with_reducible refine l_nil ?_) | (with_reducible refine e_ok ?_))) | ((with_reducible refine g_bl ?_); (first | (with_reducible refine b_sB ?_) | (with_reducible refine b_and ?_) | (with_reducible refine b_or ?_) | (with_reducible refine b_not ?_) | (with_reducible refine b_yes ?_) | (with_reducible refine e_ok ?_))) | (with_reducible refine i_seq ?_) | (with_reducible refine i_rng ?_) | (with_reducible refine i_itm ?_) | (with_reducible refine sp_0 ?_) | (with_reducible refine sp_1 ?_) | (with_reducible refine e_ok ?_))) | ((with_reducible refine g_fk ?_); (first | (with_reducible refine k_next ?_) | (with_reducible refine k_ret ?_) | (with_reducible refine k_brk ?_) | (with_reducible refine k_cont ?_))) | ((with_reducible refine g_st ?_); (first | (with_reducible refine s_d ?_) | (with_reducible refine s_c ?_) | (with_reducible refine s_f ?_) | (with_reducible refine s_s ?_))) | ((with_reducible refine g_asg ?_); (first | (with_reducible refine a_d ?_) | (with_reducible refine a_c ?_) | (with_reducible refine a_f ?_) | (with_reducible refine a_m ?_))) | ((with_reducible refine g_asp ?_); (first | (with_reducible refine ap_d ?_) | (with_reducible refine ap_c ?_) | (with_reducible refine ap_f ?_) | (with_reducible refine ap_m ?_))))
local macro_rules | `(tactic| wtm_at "mp0") => `(tactic| first | ((with_reducible refine g_el ?_); (first | ((with_reducible refine g_bin ?_); (first | (with_reducible refine p_add ?_) | (with_reducible refine p_sub ?_) | ((with_reducible apply p_mul); first | (exact mul_l (by omega) (by omega)) | (exact mul_r (by omega) (by omega))) | (with_reducible refine p_div (by omega) (div_s (by omega) (by omega)) ?_) | (with_reducible refine p_mod (by omega) ?_))) | ((with_reducible refine g_cmp ?_); (first | (with_reducible refine p_lt ?_) | (with_reducible refine p_le ?_) | (with_reducible refine p_gt ?_) | (with_reducible refine p_ge ?_) | (with_reducible refine p_eqI ?_) | (with_reducible refine p_neI ?_) | (with_reducible refine p_isN ?_) | (with_reducible refine p_notN ?_) | ((with_reducible apply p_eq); (first | rfl | (exact ok_str (by decide +kernel)) | (decide +kernel)); (first | rfl | (exact ok_str (by decide +kernel)) | (decide +kernel))) | ((with_reducible apply p_ne); (first | rfl | (exact ok_str (by decide +kernel)) | (decide +kernel)); (first | rfl | (exact ok_str (by decide +kernel)) | (decide +kernel))))) | (with_reducible refine p_neg ?_) | (with_reducible refine p_int ?_) | (with_reducible refine p_abs ?_) | (with_reducible refine p_max ?_) | (with_reducible refine p_min ?_) | (with_reducible refine p_max2 ?_) | (with_reducible refine p_min2 ?_) | (with_reducible refine p_lenT ?_) | (with_reducible refine p_lenL ?_) | (with_reducible refine p_revT ?_) | (with_reducible refine p_iadd ?_) | (with_reducible refine cut_S ?_) | (with_reducible refine cut_L ?_) | (with_reducible refine cut_F ?_) | (with_reducible refine cut_T ?_) | ((with_reducible apply p_isiT); rfl; decide +kernel) | ((with_reducible apply p_isiF); rfl; decide +kernel) | ((with_reducible apply p_all); rfl) | ((with_reducible apply p_any); rfl) | ((with_reducible apply p_idx); rfl) | ((with_reducible apply e_guard); rfl))) | ((with_reducible refine g_cond ?_); (first | (with_reducible refine e_condT ?_) | (with_reducible refine e_condF ?_) | ((with_reducible apply e_condTe); (first | rfl | (decide +kernel))) | ((with_reducible apply e_condFe); (first | rfl | (decide +kernel))) | ((with_reducible apply e_condPT); omega) | ((with_reducible apply e_condPF); omega) | ((with_reducible apply e_condNT); omega) | ((with_reducible apply e_condNF); omega))) | ((with_reducible refine g_opt ?_); (first | (with_reducible refine o_bl ?_) | (with_reducible refine o_int ?_) | (with_reducible refine o_b ?_) | (with_reducible refine o_lt ?_) | (with_reducible refine o_le ?_) | (with_reducible refine o_itF ?_) | (with_reducible refine o_itL ?_) | (with_reducible refine o_itT ?_) | ((with_reducible apply o_rngN); (first | (focus (simp; done)) | omega)) | (with_reducible refine o_rngI (by omega) (by omega) ?_) | (with_reducible refine o_rng2 (by omega) (by omega) ?_) | ((with_reducible apply o_eq); rfl))) | (with_reducible exact r_d) | ((with_reducible refine Eq.trans r_d ?_); rfl) | (with_reducible exact r_x) | (with_reducible exact r_n) | (with_reducible exact r_c) | ((with_reducible apply t_k); rfl; (first | (focus (simp; done)) | omega)) | (with_reducible refine gk_L ?_) | ((with_reducible apply gk_t); rfl) | ((with_reducible apply m_appL); (first | (focus (simp; done)) | omega)) | ((with_reducible apply m_extL); (first | (focus (simp; done)) | omega)) | ((with_reducible apply pick_fn); rfl) | ((with_reducible apply st_d); rfl; rfl) | (with_reducible refine pk_i ?_) | ((with_reducible apply c_d); (first | (focus (simp; done)) | omega)) | ((with_reducible apply h_some); rfl) | ((with_reducible apply g_d); rfl))
local macro_rules | `(tactic| wtm_at "mp1") => `(tactic| first | ((with_reducible refine g_el ?_); (first | ((with_reducible refine g_bin ?_); (first | (with_reducible refine p_add ?_) | (with_reducible refine p_sub ?_) | ((with_reducible apply p_mul); first | (exact mul_l (by omega) (by omega)) | (exact mul_r (by omega) (by omega))) | (with_reducible refine p_div (by omega) (div_s (by omega) (by omega)) ?_) | (with_reducible refine p_mod (by omega) ?_))) | ((with_reducible refine g_cmp ?_); (first | (with_reducible refine p_lt ?_) | (with_reducible refine p_le ?_) | (with_reducible refine p_gt ?_) | (with_reducible refine p_ge ?_) | (with_reducible refine p_eqI ?_) | (with_reducible refine p_neI ?_) | (with_reducible refine p_isN ?_) | (with_reducible refine p_notN ?_) | ((with_reducible apply p_eq); (first | rfl | (exact ok_str (by decide +kernel)) | (decide +kernel)); (first | rfl | (exact ok_str (by decide +kernel)) | (decide +kernel))) | ((with_reducible apply p_ne); (first | rfl | (exact ok_str (by decide +kernel)) | (decide +kernel)); (first | rfl | (exact ok_str (by decide +kernel)) | (decide +kernel))))) | (with_reducible refine p_neg ?_) | (with_reducible refine p_int ?_) | (with_reducible refine p_abs ?_) | (with_reducible refine p_max ?_) | (with_reducible refine p_min ?_) | (with_reducible refine p_max2 ?_) | (with_reducible refine p_min2 ?_) | (with_reducible refine p_lenT ?_) | (with_reducible refine p_lenL ?_) | (with_reducible refine p_revT ?_) | (with_reducible refine p_iadd ?_) | (with_reducible refine cut_S ?_) | (with_reducible refine cut_L ?_) | (with_reducible refine cut_F ?_) | (with_reducible refine cut_T ?_) | ((with_reducible apply p_isiT); rfl; decide +kernel) | ((with_reducible apply p_isiF); rfl; decide +kernel) | ((with_reducible apply p_all); rfl) | ((with_reducible apply p_any); rfl) | ((with_reducible apply p_idx); rfl) | ((with_reducible apply c_cons); rfl; rfl) | ((with_reducible apply c_nil); rfl) | ((with_reducible apply e_guard); rfl))) | ((with_reducible refine g_cond ?_); (first | (with_reducible refine e_condT ?_) | (with_reducible refine e_condF ?_) | ((with_reducible apply e_condTe); (first | rfl | (decide +kernel))) | ((with_reducible apply e_condFe); (first | rfl | (decide +kernel))) | ((with_reducible apply e_condPT); omega) | ((with_reducible apply e_condPF); omega) | ((with_reducible apply e_condNT); omega) | ((with_reducible apply e_condNF); omega))) | ((with_reducible refine g_opt ?_); (first | (with_reducible refine o_bl ?_) | (with_reducible refine o_int ?_) | (with_reducible refine o_b ?_) | (with_reducible refine o_lt ?_) | (with_reducible refine o_le ?_) | (with_reducible refine o_itF ?_) | (with_reducible refine o_itL ?_) | (with_reducible refine o_itT ?_) | ((with_reducible apply o_rngN); (first | (focus (simp; done)) | omega)) | (with_reducible refine o_rngI (by omega) (by omega) ?_) | (with_reducible refine o_rng2 (by omega) (by omega) ?_) | ((with_reducible apply o_eq); rfl))) | (with_reducible exact r_d) | ((with_reducible refine Eq.trans r_d ?_); rfl) | (with_reducible exact r_x) | (with_reducible exact r_n) | (with_reducible exact r_c) | ((with_reducible apply t_k); rfl; (first | (focus (simp; done)) | omega)) | (with_reducible refine gk_L ?_) | ((with_reducible apply gk_t); rfl) | ((with_reducible apply m_appL); (first | (focus (simp; done)) | omega)) | ((with_reducible apply m_extL); (first | (focus (simp; done)) | omega)) | ((with_reducible apply pick_fn); rfl) | ((with_reducible apply st_d); rfl; rfl) | (with_reducible refine pk_i ?_) | ((with_reducible apply c_d); (first | (focus (simp; done)) | omega)) | ((with_reducible apply h_some); rfl) | ((with_reducible apply g_d); rfl))
local macro_rules | `(tactic| wtm_at "mp2") => `(tactic| first | ((with_reducible refine g_el ?_); (first | ((with_reducible refine g_bin ?_); (first | (with_reducible refine p_add ?_) | (with_reducible refine p_sub ?_) | ((with_reducible apply p_mul); first | (exact mul_l (by omega) (by omega)) | (exact mul_r (by omega) (by omega))) | (with_reducible refine p_div (by omega) (div_s (by omega) (by omega)) ?_) | (with_reducible refine p_mod (by omega) ?_))) | ((with_reducible refine g_cmp ?_); (first | (with_reducible refine p_lt ?_) | (with_reducible refine p_le ?_) | (with_reducible refine p_gt ?_) | (with_reducible refine p_ge ?_) | (with_reducible refine p_eqI ?_) | (with_reducible refine p_neI ?_) | (with_reducible refine p_isN ?_) | (with_reducible refine p_notN ?_) | ((with_reducible apply p_eq); (first | rfl | (exact ok_str (by decide +kernel)) | (decide +kernel)); (first | rfl | (exact ok_str (by decide +kernel)) | (decide +kernel))) | ((with_reducible apply p_ne); (first | rfl | (exact ok_str (by decide +kernel)) | (decide +kernel)); (first | rfl | (exact ok_str (by decide +kernel)) | (decide +kernel))))) | (with_reducible refine p_neg ?_) | (with_reducible refine p_int ?_) | (with_reducible refine p_abs ?_) | (with_reducible refine p_max ?_) | (with_reducible refine p_min ?_) | (with_reducible refine p_max2 ?_) | (with_reducible refine p_min2 ?_) | (with_reducible refine p_lenT ?_) | (with_reducible refine p_lenL ?_) | (with_reducible refine p_revT ?_) | (with_reducible refine p_iadd ?_) | (with_reducible refine cut_S ?_) | (with_reducible refine cut_L ?_) | (with_reducible refine cut_F ?_) | (with_reducible refine cut_T ?_) | ((with_reducible apply p_isiT); rfl; decide +kernel) | ((with_reducible apply p_isiF); rfl; decide +kernel) | ((with_reducible apply p_all); rfl) | ((with_reducible apply p_any); rfl) | ((with_reducible apply p_idx); rfl) | ((with_reducible apply c_cons); rfl; rfl) | ((with_reducible apply c_nil); rfl) | ((with_reducible apply e_guard); rfl))) | ((with_reducible refine g_cond ?_); (first | (with_reducible refine e_condT ?_) | (with_reducible refine e_condF ?_) | ((with_reducible apply e_condTe); (first | rfl | (decide +kernel))) | ((with_reducible apply e_condFe); (first | rfl | (decide +kernel))) | ((with_reducible apply e_condPT); omega) | ((with_reducible apply e_condPF); omega) | ((with_reducible apply e_condNT); omega) | ((with_reducible apply e_condNF); omega) | (with_reducible refine e_condP (fun _ => ?_) (fun _ => ?_)) | (with_reducible refine e_condN (fun _ => ?_) (fun _ => ?_)))) | ((with_reducible refine g_opt ?_); (first | (with_reducible refine o_bl ?_) | (with_reducible refine o_int ?_) | (with_reducible refine o_b ?_) | (with_reducible refine o_lt ?_) | (with_reducible refine o_le ?_) | (with_reducible refine o_itF ?_) | (with_reducible refine o_itL ?_) | (with_reducible refine o_itT ?_) | ((with_reducible apply o_rngN); (first | (focus (simp; done)) | omega)) | (with_reducible refine o_rngI (by omega) (by omega) ?_) | (with_reducible refine o_rng2 (by omega) (by omega) ?_) | ((with_reducible apply o_eq); rfl))) | (with_reducible exact r_d) | ((with_reducible refine Eq.trans r_d ?_); rfl) | (with_reducible exact r_x) | (with_reducible exact r_n) | (with_reducible exact r_c) | ((with_reducible apply t_k); rfl; (first | (focus (simp; done)) | omega)) | (with_reducible refine gk_L ?_) | ((with_reducible apply gk_t); rfl) | ((with_reducible apply m_appL); (first | (focus (simp; done)) | omega)) | ((with_reducible apply m_extL); (first | (focus (simp; done)) | omega)) | ((with_reducible apply pick_fn); rfl) | ((with_reducible apply st_d); rfl; rfl) | (with_reducible refine pk_i ?_) | ((with_reducible apply c_d); (first | (focus (simp; done)) | omega)) | ((with_reducible apply h_some); rfl) | ((with_reducible apply g_d); rfl))
local macro_rules | `(tactic| wtm_at "mp3") => `(tactic| first | ((with_reducible refine g_el ?_); (first | ((with_reducible refine g_bin ?_); (first | (with_reducible refine p_add ?_) | (with_reducible refine p_sub ?_) | ((with_reducible apply p_mul); first | (exact mul_l (by omega) (by omega)) | (exact mul_r (by omega) (by omega))) | (with_reducible refine p_div (by omega) (div_s (by omega) (by omega)) ?_) | (with_reducible refine p_mod (by omega) ?_))) | ((with_reducible refine g_cmp ?_); (first | (with_reducible refine p_lt ?_) | (with_reducible refine p_le ?_) | (with_reducible refine p_gt ?_) | (with_reducible refine p_ge ?_) | (with_reducible refine p_eqI ?_) | (with_reducible refine p_neI ?_) | (with_reducible refine p_isN ?_) | (with_reducible refine p_notN ?_) | ((with_reducible apply p_eq); (first | rfl | (exact ok_str (by decide +kernel)) | (decide +kernel)); (first | rfl | (exact ok_str (by decide +kernel)) | (decide +kernel))) | ((with_reducible apply p_ne); (first | rfl | (exact ok_str (by decide +kernel)) | (decide +kernel)); (first | rfl | (exact ok_str (by decide +kernel)) | (decide +kernel))))) | (with_reducible refine p_neg ?_) | (with_reducible refine p_int ?_) | (with_reducible refine p_abs ?_) | (with_reducible refine p_max ?_) | (with_reducible refine p_min ?_) | (with_reducible refine p_max2 ?_) | (with_reducible refine p_min2 ?_) | (with_reducible refine p_lenT ?_) | (with_reducible refine p_lenL ?_) | (with_reducible refine p_revT ?_) | (with_reducible refine p_iadd ?_) | (with_reducible refine cut_S ?_) | (with_reducible refine cut_L ?_) | (with_reducible refine cut_F ?_) | (with_reducible refine cut_T ?_) | ((with_reducible apply p_isiT); rfl; decide +kernel) | ((with_reducible apply p_isiF); rfl; decide +kernel) | ((with_reducible apply p_all); rfl) | ((with_reducible apply p_any); rfl) | ((with_reducible apply p_idx); rfl) | ((with_reducible apply c_cons); rfl; rfl) | ((with_reducible apply c_nil); rfl) | ((with_reducible apply e_guard); rfl) | ((with_reducible apply f_cons); rfl; rfl) | ((with_reducible apply f_nil); rfl))) | ((with_reducible refine g_cond ?_); (first | (with_reducible refine e_condT ?_) | (with_reducible refine e_condF ?_) | ((with_reducible apply e_condTe); (first | rfl | (decide +kernel))) | ((with_reducible apply e_condFe); (first | rfl | (decide +kernel))) | ((with_reducible apply e_condPT); omega) | ((with_reducible apply e_condPF); omega) | ((with_reducible apply e_condNT); omega) | ((with_reducible apply e_condNF); omega))) | ((with_reducible refine g_opt ?_); (first | (with_reducible refine o_bl ?_) | (with_reducible refine o_int ?_) | (with_reducible refine o_b ?_) | (with_reducible refine o_lt ?_) | (with_reducible refine o_le ?_) | (with_reducible refine o_itF ?_) | (with_reducible refine o_itL ?_) | (with_reducible refine o_itT ?_) | ((with_reducible apply o_rngN); (first | (focus (simp; done)) | omega)) | (with_reducible refine o_rngI (by omega) (by omega) ?_) | (with_reducible refine o_rng2 (by omega) (by omega) ?_) | ((with_reducible apply o_eq); rfl))) | (with_reducible exact r_d) | ((with_reducible refine Eq.trans r_d ?_); rfl) | (with_reducible exact r_x) | (with_reducible exact r_n) | (with_reducible exact r_c) | ((with_reducible apply t_k); rfl; (first | (focus (simp; done)) | omega)) | (with_reducible refine gk_L ?_) | ((with_reducible apply gk_t); rfl) | ((with_reducible apply m_appL); (first | (focus (simp; done)) | omega)) | ((with_reducible apply m_extL); (first | (focus (simp; done)) | omega)) | ((with_reducible apply pick_fn); rfl) | ((with_reducible apply st_d); rfl; rfl) | (with_reducible refine pk_i ?_) | ((with_reducible apply c_d); (first | (focus (simp; done)) | omega)) | ((with_reducible apply h_some); rfl) | ((with_reducible apply g_d); rfl) | (with_reducible refine fk_n ?_) | (with_reducible refine fk_r ?_) | (with_reducible refine fk_c ?_) | (with_reducible refine fk_b ?_))

theorem rngL_get {lo : Int} {n i : Nat} {d : D} (h : (rngL lo n)[i]? = some d) : i < n ∧ d = .int (lo + i) := by
  unfold rngL at h
  rw [List.getElem?_map] at h
  by_cases hi : i < n
  · rw [List.getElem?_range hi] at h
    cases h
    exact ⟨hi, rfl⟩
  · rw [List.getElem?_eq_none (by rw [List.length_range]; omega)] at h
    cases h
theorem rngL_mem {lo : Int} {n : Nat} {d : D} (h : d ∈ rngL lo n) : ∃ k : Nat, k < n ∧ d = .int (lo + k) := by
  obtain ⟨i, hi⟩ := List.getElem?_of_mem h
  obtain ⟨h1, h2⟩ := rngL_get hi
  exact ⟨i, h1, h2⟩
theorem idx_li {c : List Int} {i : Int} {M : Mem} (h0 : 0 ≤ i) (h : i < c.length) : idx (.d (.lst (c.map .int))) (.d (.int i)) M = .ok (.d (.int (c.getD i.toNat 0))) M :=
  idx_lst (atI_int h0 (by rw [List.getElem?_map, List.getD_eq_getElem?_getD, List.getElem?_eq_getElem (by omega)]; rfl))
theorem idx_tiI {c : List Int} {i : Int} {M : Mem} (h0 : 0 ≤ i) (h : i < c.length) : idx (.d (ti c)) (.d (.int i)) M = .ok (.d (.int (c.getD i.toNat 0))) M :=
  idx_tup (atI_int h0 (by rw [List.getElem?_map, List.getD_eq_getElem?_getD, List.getElem?_eq_getElem (by omega)]; rfl))
theorem sum_ints {ns : List Int} {M : Mem} : sumOp [.d (.lst (ns.map .int))] M = .ok (.d (.int ns.sum)) M := by
  unfold sumOp
  show (match (lstOf M (.d (.lst (ns.map .int)))).bind ints? with
    | some ns => Out.ok (AV.d (.int ns.sum)) M
    | none => .bad) = _
  have e : (lstOf M (.d (.lst (ns.map .int)))).bind ints? = some ns := ints_map ns
  rw [e]
theorem isint {a : Int} {M : Mem} : Fis_integer [.d (.int a)] M = .ok (.d (.bl true)) M := by
  unfold Fis_integer
  refine e_fn rfl ?_
  unfold Tis_integer
  repeat' (first | (wtm_at "mpA") | (wtm_at "mp2"))
theorem whole {a : Int} {M : Mem} : F_law_is_whole [.d (.int a)] M = .ok (.d (.bl true)) M := by
  unfold F_law_is_whole
  refine e_fn rfl ?_
  unfold T_law_is_whole
  repeat' (first | (wtm_at "mpA") | (wtm_at "mp2"))
theorem flats_ti : ∀ c : List Int, D.flats (c.map .int) = true
  | [] => rfl
  | _ :: r => by show (true && D.flats (r.map .int)) = true; rw [flats_ti r]; rfl
theorem canLay_ti : ∀ c : List Int, PyData.canLayAll0 (D.pys (c.map .int)) = true
  | [] => rfl
  | _ :: r => by show (true && PyData.canLayAll0 (D.pys (r.map .int))) = true; rw [canLay_ti r]; rfl
theorem depth_ti : ∀ c : List Int, PyData.depthAll (D.pys (c.map .int)) = 0
  | [] => rfl
  | _ :: r => by show max 0 (PyData.depthAll (D.pys (r.map .int))) = 0; rw [depth_ti r]; rfl
theorem ok_ti (c : List Int) : (ti c).ok = true := by
  show (D.flats (c.map .int) && (PyData.canLayAll0 (D.pys (c.map .int)) && decide (PyData.depthAll (D.pys (c.map .int)) + 1 ≤ 64))) = true
  rw [flats_ti, canLay_ti, depth_ti]
  rfl
theorem eqvAll_ti : ∀ c d : List Int, PyData.eqvAll (D.pys (c.map .int)) (D.pys (d.map .int)) = decide (c = d)
  | [], [] => by simp [D.pys, PyData.eqvAll]
  | [], _ :: _ => by simp [D.pys, PyData.eqvAll]
  | _ :: _, [] => by simp [D.pys, PyData.eqvAll]
  | a :: r, b :: q => by
    show (PyData.eqv (.int a) (.int b) && PyData.eqvAll (D.pys (r.map .int)) (D.pys (q.map .int))) = _
    rw [eqvAll_ti r q, eqv_int]
    by_cases h1 : a = b <;> by_cases h2 : r = q <;> simp [h1, h2]
theorem eqv_ti (c d : List Int) : D.eqv (ti c) (ti d) = decide (c = d) := eqvAll_ti c d
theorem all_bls {bs : List Bool} {M : Mem} : allOp [.d (.lst (bs.map .bl))] M = .ok (.d (.bl (bs.all id))) M := by
  show (match (lstOf M (.d (.lst (bs.map .bl)))).bind bools? with
    | some bs => Out.ok (AV.d (.bl (bs.all id))) M
    | none => .bad) = _
  have e : (lstOf M (.d (.lst (bs.map .bl)))).bind bools? = some bs := bools_map bs
  rw [e]
theorem zipL_ints : ∀ xs ys : List Int, zipL (xs.map .int) (ys.map .int) = (List.zip xs ys).map fun p => D.tup [.int p.1, .int p.2]
  | [], ys => by cases ys <;> rfl
  | _ :: _, [] => rfl
  | x :: xs, y :: ys => by
    show D.tup [.int x, .int y] :: zipL (xs.map .int) (ys.map .int) = _
    rw [zipL_ints xs ys]
    rfl
theorem idx_last {x : Int} {r : List Int} {M : Mem} : idx (.d (ti (x :: r))) (.d (.int (-1))) M = .ok (.d (.int (lastI (x :: r)))) M := idx_tup (atI_last (by simp))
theorem foldl_rng {S : Type} (f : S → D → S) (lo : Int) : ∀ (l : List Nat) (s : S), (l.map fun k : Nat => D.int (lo + k)).foldl f s = l.foldl (fun s (k : Nat) => f s (.int (lo + k))) s
  | [], s => rfl
  | k :: l, s => foldl_rng f lo l _
theorem idx_lastC {α : Type} {f : α → D} {s : List α} {t : α} {M : Mem} : idx (.cell M.length) (.d (.int (-1))) (M ++ [some (.l ((s ++ [t]).map f))]) = .ok (.d (f t)) (M ++ [some (.l ((s ++ [t]).map f))]) :=
  idx_cell last_get (by rw [List.map_append]; exact atI_neg1)
theorem tup_cell {xs : List D} {M : Mem} : tupleOp [.cell M.length] (M ++ [some (.l xs)]) = .ok (.d (.tup xs)) (M ++ [some (.l xs)]) := by
  have e : lstOf (M ++ [some (.l xs)]) (.cell M.length) = some xs := by
    show (match (M ++ [some (MC.l xs)])[M.length]? with | some (some (.l xs)) => some xs | _ => none) = _
    rw [last_get]
  unfold tupleOp
  simp only [e]
theorem r_dL {v : D} {M X : Mem} : endK M.length (.ret (.d v)) (M ++ X) = .ok (.d v) M := by
  show Out.ok (AV.d v) ((M ++ X).take M.length) = _
  rw [List.take_left]
theorem tup_fr {xs : List D} {M : Mem} : tupleOp [.fr xs] M = .ok (.d (.tup xs)) M := rfl
theorem tup_lst {xs : List D} {M : Mem} : tupleOp [.d (.lst xs)] M = .ok (.d (.tup xs)) M := rfl
abbrev tis (cs : List (List Int)) : D := .tup (cs.map ti)
theorem flats_tis : ∀ c : List (List Int), D.flats (c.map ti) = true
  | [] => rfl
  | a :: r => by
    show (D.flats (a.map .int) && D.flats (r.map ti)) = true
    rw [flats_tis r, flats_ti a]
    rfl
theorem canLay_tis : ∀ c : List (List Int), PyData.canLayAll0 (D.pys (c.map ti)) = true
  | [] => rfl
  | a :: r => by
    show (PyData.canLayAll0 (D.pys (a.map .int)) && PyData.canLayAll0 (D.pys (r.map ti))) = true
    rw [canLay_tis r, canLay_ti a]
    rfl
theorem depth_tis : ∀ c : List (List Int), PyData.depthAll (D.pys (c.map ti)) ≤ 1
  | [] => by decide
  | a :: r => by
    show max (PyData.depthAll (D.pys (a.map .int)) + 1) (PyData.depthAll (D.pys (r.map ti))) ≤ 1
    have := depth_tis r
    rw [depth_ti a]
    omega
theorem ok_tis (c : List (List Int)) : (tis c).ok = true := by
  show (D.flats (c.map ti) && (PyData.canLayAll0 (D.pys (c.map ti)) && decide (PyData.depthAll (D.pys (c.map ti)) + 1 ≤ 64))) = true
  have := depth_tis c
  rw [flats_tis, canLay_tis, decide_eq_true (by omega)]
  rfl
theorem oddI {a : Int} {n : Nat} {M : Mem} : F_law_odd (n + 1) [.d (.int a)] M = .ok (.d (.bl false)) M := by
  rw [F_law_odd]
  refine e_fn rfl ?_
  unfold T_law_odd
  repeat' (first | (wtm_at "mpA") | (wtm_at "mp2"))
theorem oddL {ds : List D} {n : Nat} {M : Mem} (ho : (D.tup ds).ok = true) (hl : ds.length ≤ 90000) (h : ∀ d ∈ ds, ∀ M, F_law_odd n [.d d] M = .ok (.d (.bl false)) M) : F_law_odd (n + 1) [.d (.tup ds)] M = .ok (.d (.bl false)) M := by
  have hl2 : ds.length ≤ 1000000 := by omega
  have e : D.eqv (.tup ds) (.str "a word that nothing else is") = false := rfl
  rw [F_law_odd]
  refine e_fn rfl ?_
  unfold T_law_odd
  repeat' (first | (wtm_at "mpA") | (with_reducible refine p_eq ho (ok_str (by decide +kernel)) ?_) | (wtm_at "mp0"))
  refine e_compE (fun d => d) (fun _ => false) (fun d hd => ?_) hl2 ?_
  · refine ⟨_, rfl, ?_, fun h => absurd h (by decide)⟩
    refine el_start ?_
    repeat' (first | (wtm_at "mpA") | (with_reducible apply e_call (h d hd _)) | (wtm_at "mp1"))
    rfl
  · have e0 : (ds.filter fun _ => false).map (fun d => d) = [] := by simp
    rw [e0]
    repeat' (first | (wtm_at "mpA") | (wtm_at "mp1"))
theorem odd_ti {c : List Int} {n : Nat} {M : Mem} (hl : c.length ≤ 90000) : F_law_odd (n + 2) [.d (ti c)] M = .ok (.d (.bl false)) M := by
  refine oddL (ok_ti c) (by simpa using hl) fun d hd M => ?_
  obtain ⟨b, hb, rfl⟩ := List.mem_map.mp hd
  exact oddI
theorem odd_tis {c : List (List Int)} {n : Nat} {M : Mem} (hl : c.length ≤ 90000) (h2 : ∀ a ∈ c, a.length ≤ 90000) : F_law_odd (n + 3) [.d (tis c)] M = .ok (.d (.bl false)) M := by
  refine oddL (ok_tis c) (by simpa using hl) fun d hd M => ?_
  obtain ⟨b, hb, rfl⟩ := List.mem_map.mp hd
  exact odd_ti (h2 b hb)
theorem hon {v : D} {M : Mem} (h : F_law_odd 8 [.d v] M = .ok (.d (.bl false)) M) : F_law_honest [.d v] M = .ok (.d v) M := by
  unfold F_law_honest
  refine e_fn rfl ?_
  unfold T_law_honest
  repeat' (first | (wtm_at "mpA") | (with_reducible apply e_call h) | (wtm_at "mp1"))
abbrev St (a b : Int) (Mt : Mem) : Mem := some (.l [.int a, .int b]) :: Mt
theorem r_dT {v : D} {x y : Option MC} {Mt : Mem} : endK (x :: Mt).length (.ret (.d v)) (y :: Mt) = .ok (.d v) (y :: Mt) := by
  show Out.ok (AV.d v) ((y :: Mt).take (x :: Mt).length) = _
  rw [List.take_of_length_le (by simp)]
theorem take_ok {m a b : Int} {Mt : Mem} (hm : 1 ≤ m ∧ m ≤ 1000000) : ∃ r a' b', F_law_take [.cell 0, .d (.int m)] (St a b Mt) = .ok (.d (.int r)) (St a' b' Mt) ∧ 0 ≤ r ∧ r < m := by
  by_cases h : 0 < a
  · refine ⟨a % m, a / m, b, ?_, Int.emod_nonneg a (b := m) (by omega), Int.emod_lt_of_pos a (by omega)⟩
    unfold F_law_take
    refine e_fn rfl ?_
    unfold T_law_take
    repeat' (first | (wtm_at "mpA") | (wtm_at "mp2"))
    exact r_dT
  · refine ⟨_, a, (b * 48271 + 11) % 2147483647, ?_, Int.emod_nonneg (((b * 48271 + 11) % 2147483647) / 7) (b := m) (by omega), Int.emod_lt_of_pos _ (by omega)⟩
    unfold F_law_take
    refine e_fn rfl ?_
    unfold T_law_take
    repeat' (first | (wtm_at "mpA") | (wtm_at "mp2"))
    exact r_dT
theorem mapp {β : Type} {res : Out β} {k : AV → Mem → Out β} {a b : Int} {Mt : Mem} {xs : List D} {x : D} (hl : xs.length < 1000000) (h : k (.d .non) (St a b (Mt ++ [some (.l (xs ++ [x]))])) = res) : mK mAppend (.cell (Mt.length + 1)) [.d x] (St a b (Mt ++ [some (.l xs)])) k = res :=
  m_appL (M := St a b Mt) hl h
theorem gkc {a b : Int} {Mt : Mem} {xs : List D} : (cellOf? (St a b (Mt ++ [some (.l xs)])) (.cell (Mt.length + 1))).isSome = true := by
  simp [cellOf?]
theorem len_c {a b : Int} {Mt : Mem} {xs : List D} : lenOp [.cell (Mt.length + 1)] (St a b (Mt ++ [some (.l xs)])) = .ok (.d (.int xs.length)) (St a b (Mt ++ [some (.l xs)])) := by
  unfold lenOp
  simp [lstOf]
theorem tup_cS {a b : Int} {Mt : Mem} {xs : List D} : tupleOp [.cell (Mt.length + 1)] (St a b (Mt ++ [some (.l xs)])) = .ok (.d (.tup xs)) (St a b (Mt ++ [some (.l xs)])) := tup_cell (M := St a b Mt)
theorem r_dS {v : D} {a b a' b' : Int} {Mt X : Mem} : endK (St a b Mt).length (.ret (.d v)) (St a' b' (Mt ++ X)) = .ok (.d v) (St a' b' Mt) := r_dL (M := St a' b' Mt)
theorem cutG_init {α : Type} {xs : List α} : cutG xs none (some (-1)) = xs.dropLast := by
  unfold cutG
  have e0 : HT.sIx xs.length 0 none = 0 := rfl
  have e : HT.sIx xs.length xs.length (some (-1)) = xs.length - 1 := by
    show (if (-1 : Int) < 0 then ((-1 : Int) + (xs.length : Int)).toNat else min (-1 : Int).toNat xs.length) = xs.length - 1
    rw [if_pos (by decide)]
    omega
  rw [e0, e, List.drop_zero, Nat.sub_zero, List.dropLast_eq_take]
theorem says_ok {x y : Bool} {M : Mem} : F_law_says [.d (.bl x), .d (.bl y)] M = .ok (.d (.bl (x == y))) M := by
  unfold F_law_says
  refine e_fn rfl ?_
  unfold T_law_says
  cases x
  · cases y
    · repeat' (first | (wtm_at "mpA") | (wtm_at "mp1"))
    · repeat' (first | (wtm_at "mpA") | (wtm_at "mp1"))
  · cases y
    · repeat' (first | (wtm_at "mpA") | (wtm_at "mp1"))
    · repeat' (first | (wtm_at "mpA") | (wtm_at "mp1"))
theorem while_ex {c : SB} {body : SS} {env : Env} {M : Mem} (I P : Env → Mem → Prop) (μ : Env → Mem → Nat) (h0 : I env M)
    (step : ∀ env M, I env M → (c env M = .ok false M ∧ P env M) ∨ (c env M = .ok true M ∧ ∃ env' M', body env M = .ok (.next env') M' ∧ I env' M' ∧ μ env' M' < μ env M)) (hμ : μ env M < 2 ^ 200) :
    ∃ env' M', sWhile c body env M = .ok (.next env') M' ∧ P env' M' := by
  unfold sWhile
  exact while_n μ step bigF env M h0 (Nat.lt_of_lt_of_le hμ big_le)
theorem e_next {β : Type} {kx : Exc → Mem → Out β} {res : Out β} {k : Fl → Mem → Out β} {s : SS} {env env' : Env} {M M' : Mem} (e : s env M = .ok (.next env') M') (h : k (.next env') M' = res) : el (s env M) k kx = res := by rw [e]; exact h
theorem div_i {j : Int} (h0 : 0 ≤ j) (h : j ≤ 1000000) : divOk j = true := div_s (by omega) (by omega)
theorem r_f {M : Mem} {xs : List D} : endK M.length (.ret (.fr xs)) M = .ok (.fr xs) M := by
  show Out.ok (AV.fr xs) (M.take M.length) = _
  rw [List.take_length]
theorem p_cut {β : Type} {kx : Exc → Mem → Out β} {res : Out β} {k : AV → Mem → Out β} {x v : AV} {i j : Option Int} {M M2 : Mem} (e : cutop x i j M = .ok v M2) (h : k v M2 = res) : el (cutop x i j M) k kx = res := by rw [e]; exact h
theorem any_bls {bs : List Bool} {M : Mem} : anyOp [.d (.lst (bs.map .bl))] M = .ok (.d (.bl (bs.any id))) M := by
  show (match (lstOf M (.d (.lst (bs.map .bl)))).bind bools? with
    | some bs => Out.ok (AV.d (.bl (bs.any id))) M
    | none => .bad) = _
  have e : (lstOf M (.d (.lst (bs.map .bl)))).bind bools? = some bs := bools_map bs
  rw [e]
theorem add_ff {M : Mem} {xs ys : List D} (h : xs.length + ys.length ≤ 1000000) : binop .Add (opnd M (.fr xs)) (opnd M (.fr ys)) M = .ok (.fr (xs ++ ys)) M := add_lf h
theorem cutG_nn {α : Type} (xs : List α) (i j : Nat) (h : i ≤ j) : cutG xs (some (i : Int)) (some (j : Int)) = (xs.drop i).take (j - i) := by
  unfold cutG
  rw [HT.sIx_nat, HT.sIx_nat]
  by_cases h1 : i ≤ xs.length
  · rw [Nat.min_eq_left h1]
    by_cases h2 : j ≤ xs.length
    · rw [Nat.min_eq_left h2]
    · rw [Nat.min_eq_right (by omega), List.take_of_length_le (by rw [List.length_drop]; omega), List.take_of_length_le (by rw [List.length_drop]; omega)]
  · rw [Nat.min_eq_right (show xs.length ≤ i by omega), List.drop_of_length_le (Nat.le_refl _), List.drop_of_length_le (show xs.length ≤ i by omega)]
    simp
theorem cutG_n0 {α : Type} (xs : List α) (i : Nat) : cutG xs (some (i : Int)) none = xs.drop i := by
  unfold cutG
  rw [HT.sIx_nat, HT.sIx_none]
  by_cases h1 : i ≤ xs.length
  · rw [Nat.min_eq_left h1, List.take_of_length_le (by rw [List.length_drop]; omega)]
  · rw [Nat.min_eq_right (show xs.length ≤ i by omega), List.drop_of_length_le (Nat.le_refl _), List.drop_of_length_le (show xs.length ≤ i by omega)]
    simp
/-! rows with ones behind them -/
theorem e_condE {β : Type} {res r r' : Out β} {b c : Bool} (e : b = c) (h : cond c r r' = res) : cond b r r' = res := by rw [e]; exact h

theorem sameI {a b : Int} {n : Nat} {M : Mem} : F_law_same (n + 1) [.d (.int a), .d (.int b)] M = .ok (.d (.bl (decide (a = b)))) M := by
  rw [F_law_same]
  refine e_fn rfl ?_
  unfold T_law_same
  repeat' (first | (wtm_at "mpA") | (with_reducible refine e_call whole ?_) | (wtm_at "mp1"))
theorem sameL {ds : List D} {n : Nat} {M : Mem} (hl : ds.length ≤ 90000) (h : ∀ d ∈ ds, ∀ M, F_law_same n [.d d, .d d] M = .ok (.d (.bl true)) M) : F_law_same (n + 1) [.d (.tup ds), .d (.tup ds)] M = .ok (.d (.bl true)) M := by
  have hl2 : ds.length ≤ 1000000 := by omega
  rw [F_law_same]
  refine e_fn rfl ?_
  unfold T_law_same
  repeat' (first | (wtm_at "mpA") | (wtm_at "mp0"))
  refine e_compE (fun _ => .bl true) (fun _ => true) (fun d hd => ?_) (by unfold rngL; simpa using hl2) ?_
  · obtain ⟨k, hk, rfl⟩ := rngL_mem hd
    have i1 : ∀ M, idx (.d (.tup ds)) (.d (.int (0 + k))) M = .ok (.d ds[k]) M := fun M => idx_tup (atI_int (by omega) (by rw [show ((0 : Int) + k).toNat = k by omega]; exact List.getElem?_eq_getElem hk))
    refine ⟨_, rfl, rfl, fun _ => ⟨.d (.bl true), el_start ?_, rfl⟩⟩
    repeat' (first | (wtm_at "mpA") | (with_reducible apply p_idx (i1 _)) | (with_reducible apply e_call (h _ (List.getElem_mem hk) _)) | (wtm_at "mp0"))
    rfl
  · have e : ((rngL 0 ds.length).filter fun _ => true).map (fun _ => D.bl true) = ((List.range ds.length).map fun _ => true).map D.bl := by
      rw [List.filter_eq_self.mpr (fun _ _ => rfl)]
      unfold rngL
      rw [List.map_map, List.map_map]
      rfl
    dsimp only
    rw [e]
    repeat' (first | (wtm_at "mpA") | (with_reducible apply e_call all_bls) | (wtm_at "mp1"))
    refine r_d.trans ?_
    simp
theorem same_ti {c : List Int} {n : Nat} {M : Mem} (hl : c.length ≤ 90000) : F_law_same (n + 2) [.d (ti c), .d (ti c)] M = .ok (.d (.bl true)) M := by
  refine sameL (by simpa using hl) fun d hd M => ?_
  obtain ⟨b, hb, rfl⟩ := List.mem_map.mp hd
  rw [sameI, decide_eq_true rfl]
theorem same_tis {c : List (List Int)} {n : Nat} {M : Mem} (hl : c.length ≤ 90000) (h2 : ∀ a ∈ c, a.length ≤ 90000) : F_law_same (n + 3) [.d (tis c), .d (tis c)] M = .ok (.d (.bl true)) M := by
  refine sameL (by simpa using hl) fun d hd M => ?_
  obtain ⟨b, hb, rfl⟩ := List.mem_map.mp hd
  exact same_ti (h2 b hb)
theorem sameW {x : Str} {n : Nat} {M : Mem} (h : (PyData.str x).canLay0 = true) : F_law_same (n + 1) [.d (.str x), .d (.str x)] M = .ok (.d (.bl true)) M := by
  have e : D.eqv (.str x) (.str x) = true := by
    show (x == x) = true
    exact beq_self_eq_true x
  rw [F_law_same]
  refine e_fn rfl ?_
  unfold T_law_same
  repeat' (first | (wtm_at "mpA") | (with_reducible refine e_call whole ?_) | (with_reducible refine p_eq (ok_str h) (ok_str h) ?_) | (wtm_at "mp1"))
  rw [e]
  exact r_d
theorem sameN {n : Nat} {M : Mem} : F_law_same (n + 1) [.d .non, .d .non] M = .ok (.d (.bl true)) M := by
  rw [F_law_same]
  refine e_fn rfl ?_
  unfold T_law_same
  repeat' (first | (wtm_at "mpA") | (wtm_at "mp1"))
theorem same_two {a b : D} {n : Nat} {M : Mem} (h1 : ∀ M, F_law_same (n + 1) [.d a, .d a] M = .ok (.d (.bl true)) M) (h2 : ∀ M, F_law_same (n + 1) [.d b, .d b] M = .ok (.d (.bl true)) M) : F_law_same (n + 2) [.d (.tup [a, b]), .d (.tup [a, b])] M = .ok (.d (.bl true)) M := by
  refine sameL (by simp) fun d hd M => ?_
  rcases List.mem_cons.mp hd with rfl | hd
  · exact h1 M
  · rw [List.mem_singleton.mp hd]; exact h2 M
theorem augI_eq {op : Operator} {fo fi fe : SE} {env : Env} {M : Mem} {c : Nat} {i x y z : Int} {xs : List D} (h1 : fo env M = .ok (.cell c) M) (h2 : fi env M = .ok (.d (.int i)) M) (h3 : fe env M = .ok (.d (.int y)) M)
    (h4 : M[c]? = some (some (.l xs))) (hi : 0 ≤ i ∧ i < xs.length) (h5 : xs[i.toNat]? = some (.int x)) (h6 : inop op (.d (.int x)) (.d (.int y)) M = .ok (.d (.int z)) M) :
    sAugI op fo fi fe env M = .ok (.next env) (M.set c (some (.l (xs.set i.toNat (.int z))))) := by
  have e1 : lstOf M (.cell c) = some xs := by unfold lstOf; dsimp only; rw [h4]
  have e2 : L2.atI xs i = some (.int x) := atI_int hi.1 h5
  have e3 : cellOf? M (.cell c) = some (c, xs) := by unfold cellOf?; dsimp only; rw [h4]
  have e4 : L2.ixN xs.length i = some i.toNat := by unfold L2.ixN; rw [if_pos hi.1, if_pos hi.2]
  unfold sAugI
  rw [h1, Out.bind_ok, h2, Out.bind_ok]
  simp only [e1, e2, h3, Out.bind_ok, h6, e3, e4]
theorem setI_eq {fo fi fv : SE} {env : Env} {M : Mem} {c : Nat} {i : Int} {z : D} {xs : List D} (h1 : fo env M = .ok (.cell c) M) (h2 : fi env M = .ok (.d (.int i)) M) (h3 : fv env M = .ok (.d z) M)
    (h4 : M[c]? = some (some (.l xs))) (hi : 0 ≤ i ∧ i < xs.length) : sSetI fo fi fv env M = .ok (.next env) (M.set c (some (.l (xs.set i.toNat z)))) := by
  have e3 : cellOf? M (.cell c) = some (c, xs) := by unfold cellOf?; dsimp only; rw [h4]
  have e4 : L2.ixN xs.length i = some i.toNat := by unfold L2.ixN; rw [if_pos hi.1, if_pos hi.2]
  unfold sSetI
  rw [h3, Out.bind_ok, h1, Out.bind_ok, h2, Out.bind_ok]
  show (match keepD (.d z) M, AV.d (.int i) with
    | some (d, M4), .d (.int k) => match cellOf? M4 (.cell c) with
      | some (c, xs) => match L2.ixN xs.length k with
        | some j => Out.ok (Fl.next env) (M4.set c (some (.l (xs.set j d))))
        | none => .bad
      | none => .bad
    | _, _ => .bad) = _
  simp only [keepD, e3, e4]

/-! ## sums of generators -/
inductive Gen (L : List Int) : Int → Prop
  | zero : Gen L 0
  | add {g s : Int} : g ∈ L → Gen L s → Gen L (s + g)
def PosL (L : List Int) : Prop := ∀ g ∈ L, 0 < g
theorem PosL.nil : PosL [] := fun _ h => nomatch h
theorem PosL.snoc {L : List Int} {g : Int} (h : PosL L) (hg : 0 < g) : PosL (L ++ [g]) := fun x hx => by
  rcases List.mem_append.mp hx with hx | hx
  · exact h x hx
  · rw [List.mem_singleton.mp hx]; exact hg
theorem Gen.nn {L : List Int} (h : PosL L) {s : Int} (g : Gen L s) : 0 ≤ s := by
  induction g with
  | zero => exact Int.le_refl 0
  | add hg _ ih => have := h _ hg; omega
theorem Gen.trans {L L' : List Int} (h : ∀ g ∈ L', Gen L g) (plus : ∀ {s t}, Gen L s → Gen L t → Gen L (s + t)) {s : Int} (g : Gen L' s) : Gen L s := by
  induction g with
  | zero => exact .zero
  | add hg _ ih => exact plus ih (h _ hg)
theorem Gen.plus {L : List Int} {s t : Int} (a : Gen L s) (b : Gen L t) : Gen L (s + t) := by
  induction b with
  | zero => rw [Int.add_zero]; exact a
  | add hg _ ih => rw [← Int.add_assoc]; exact .add hg ih
theorem Gen.of_mem {L : List Int} {g : Int} (h : g ∈ L) : Gen L g := by
  have := Gen.add h Gen.zero
  rwa [Int.zero_add] at this
theorem Gen.sub {L L' : List Int} (h : ∀ g ∈ L', Gen L g) {s : Int} (g : Gen L' s) : Gen L s := g.trans h fun a b => a.plus b
theorem Gen.mono {L L' : List Int} (h : ∀ g ∈ L', g ∈ L) {s : Int} (g : Gen L' s) : Gen L s := g.sub fun x hx => .of_mem (h x hx)
theorem Gen.mul {L : List Int} {s : Int} (a : Gen L s) : ∀ k : Nat, Gen L ((k : Int) * s)
  | 0 => by rw [show ((0 : Nat) : Int) * s = 0 by simp]; exact .zero
  | k + 1 => by
    have e : (((k + 1 : Nat)) : Int) * s = (k : Int) * s + s := by rw [Int.natCast_add, Int.add_mul]; simp
    rw [e]
    exact (a.mul k).plus a
theorem Gen.pred {L : List Int} {s : Int} (a : Gen L s) : s = 0 ∨ ∃ g ∈ L, Gen L (s - g) := by
  cases a with
  | zero => exact .inl rfl
  | add hg h => exact .inr ⟨_, hg, by rwa [Int.add_sub_cancel]⟩
theorem gen_snoc {L : List Int} {g s : Int} : Gen (L ++ [g]) s ↔ ∃ (k : Nat) (t : Int), Gen L t ∧ s = t + (k : Int) * g := by
  constructor
  · intro h
    induction h with
    | zero => exact ⟨0, 0, .zero, by simp⟩
    | @add x s hx _ ih =>
      obtain ⟨k, t, ht, rfl⟩ := ih
      rcases List.mem_append.mp hx with hx | hx
      · exact ⟨k, t + x, .add hx ht, by omega⟩
      · rw [List.mem_singleton.mp hx]
        exact ⟨k + 1, t, ht, by rw [Int.natCast_add, Int.add_mul]; simp; omega⟩
  · rintro ⟨k, t, ht, rfl⟩
    exact (ht.mono fun x hx => List.mem_append_left _ hx).plus ((Gen.of_mem (List.mem_append_right _ List.mem_cons_self)).mul k)
theorem gen_nil {s : Int} : Gen [] s ↔ s = 0 := by
  constructor
  · intro h
    cases h with
    | zero => rfl
    | add hg _ => exact nomatch hg
  · intro h
    rw [h]
    exact .zero
noncomputable def genB (L : List Int) (k : Int) : Bool := @decide (Gen L k) (Classical.propDecidable _)
theorem genB_iff {L : List Int} {k : Int} : genB L k = true ↔ Gen L k := by
  unfold genB
  exact @decide_eq_true_iff _ (Classical.propDecidable _)
theorem genB_neg {L : List Int} (hp : PosL L) {k : Int} (h : k < 0) : genB L k = false := by
  cases e : genB L k with
  | false => rfl
  | true => have := (genB_iff.mp e).nn hp; omega
theorem genB_zero (L : List Int) : genB L 0 = true := genB_iff.mpr .zero
theorem genB_rec {L : List Int} (hp : PosL L) {k : Int} (hk : 1 ≤ k) : genB L k = L.any fun g => decide (g ≤ k) && genB L (k - g) := by
  rw [Bool.eq_iff_iff, genB_iff, List.any_eq_true]
  constructor
  · intro h
    rcases h.pred with h | ⟨g, hg, h⟩
    · omega
    · have := h.nn hp
      exact ⟨g, hg, by rw [Bool.and_eq_true, decide_eq_true_iff, genB_iff]; exact ⟨by omega, h⟩⟩
  · rintro ⟨g, hg, h⟩
    rw [Bool.and_eq_true, genB_iff] at h
    have := Gen.add hg h.2
    rwa [Int.sub_add_cancel] at this
theorem genB_snoc {L : List Int} {x k : Int} (hp : PosL L) (hx : 0 < x) : genB (L ++ [x]) k = (genB L k || genB (L ++ [x]) (k - x)) := by
  rw [Bool.eq_iff_iff, Bool.or_eq_true, genB_iff, genB_iff, genB_iff]
  constructor
  · intro h
    obtain ⟨n, t, ht, rfl⟩ := gen_snoc.mp h
    match n with
    | 0 => left; simpa using ht
    | n + 1 => right; exact gen_snoc.mpr ⟨n, t, ht, by rw [Int.natCast_add, Int.add_mul]; simp; omega⟩
  · rintro (h | h)
    · exact h.mono fun y hy => List.mem_append_left _ hy
    · have := Gen.add (L := L ++ [x]) (List.mem_append_right _ List.mem_cons_self) h
      rwa [Int.sub_add_cancel] at this
/-! ## the least generators -/
noncomputable def leastF (F : List Int) (x : Int) : List Int := if genB F x = true then F else F ++ [x]
noncomputable def leastL (xs : List Int) : List Int := xs.foldl leastF []
theorem leastL_snoc (xs : List Int) (x : Int) : leastL (xs ++ [x]) = leastF (leastL xs) x := by unfold leastL; rw [List.foldl_append]; rfl
theorem least_facts (n : Nat) : ∀ xs : List Int, xs.length = n → (leastL xs).Sublist xs ∧ (∀ x ∈ xs, Gen (leastL xs) x) ∧ leastL (leastL xs) = leastL xs := by
  induction n with
  | zero => intro xs h; rw [List.eq_nil_of_length_eq_zero h]; exact ⟨List.Sublist.refl _, (fun x hx => nomatch hx), rfl⟩
  | succ n ih =>
    intro xs h
    have hne : xs ≠ [] := fun e => by rw [e] at h; cases h
    have e := List.dropLast_concat_getLast hne
    rw [← e]
    obtain ⟨h1, h2, h3⟩ := ih xs.dropLast (by rw [List.length_dropLast, h]; rfl)
    rw [leastL_snoc]
    unfold leastF
    by_cases hg : genB (leastL xs.dropLast) (xs.getLast hne) = true
    · rw [if_pos hg]
      refine ⟨h1.trans (List.sublist_append_left _ _), fun x hx => ?_, h3⟩
      rcases List.mem_append.mp hx with hx | hx
      · exact h2 x hx
      · rw [List.mem_singleton.mp hx]; exact genB_iff.mp hg
    · rw [if_neg hg]
      refine ⟨h1.append (List.Sublist.refl _), fun x hx => ?_, ?_⟩
      · rcases List.mem_append.mp hx with hx | hx
        · exact (h2 x hx).mono fun y hy => List.mem_append_left _ hy
        · exact .of_mem (List.mem_append_right _ hx)
      · rw [leastL_snoc, h3]
        unfold leastF
        rw [if_neg hg]
theorem PosL.sub {L L' : List Int} (h : PosL L) (s : L'.Sublist L) : PosL L' := fun x hx => h x (s.subset hx)
/-! ## the greatest common divisor of a row -/
def gcdL (L : List Int) : Int := L.foldl (fun a b => (Int.gcd a b : Nat)) 0
theorem gcdL_snoc (L : List Int) (x : Int) : gcdL (L ++ [x]) = (Int.gcd (gcdL L) x : Nat) := by unfold gcdL; rw [List.foldl_append]; rfl
theorem gcdL_nn (L : List Int) : 0 ≤ gcdL L := by
  rcases List.eq_nil_or_concat L with rfl | ⟨L, x, rfl⟩
  · exact Int.le_refl 0
  · rw [List.concat_eq_append, gcdL_snoc]; omega
theorem gcdL_dvd : ∀ (n : Nat) (L : List Int), L.length = n → (∀ x ∈ L, gcdL L ∣ x) ∧ ∀ d : Int, (∀ x ∈ L, d ∣ x) → d ∣ gcdL L := by
  intro n
  induction n with
  | zero => intro L h; rw [List.eq_nil_of_length_eq_zero h]; exact ⟨(fun x hx => nomatch hx), fun d _ => ⟨0, by simp [gcdL]⟩⟩
  | succ n ih =>
    intro L h
    have hne : L ≠ [] := fun e => by rw [e] at h; cases h
    have e := List.dropLast_concat_getLast hne
    rw [← e, gcdL_snoc]
    obtain ⟨h1, h2⟩ := ih L.dropLast (by rw [List.length_dropLast, h]; rfl)
    refine ⟨fun x hx => ?_, fun d hd => ?_⟩
    · rcases List.mem_append.mp hx with hx | hx
      · exact Int.dvd_trans (Int.gcd_dvd_left ..) (h1 x hx)
      · rw [List.mem_singleton.mp hx]; exact Int.gcd_dvd_right ..
    · exact Int.dvd_coe_gcd (h2 d fun x hx => hd x (List.mem_append_left _ hx)) (hd _ (List.mem_append_right _ List.mem_cons_self))
theorem gcdL_mem {L : List Int} {x : Int} (h : x ∈ L) : gcdL L ∣ x := (gcdL_dvd _ L rfl).1 x h
theorem gcdL_of {L : List Int} {d : Int} (h : ∀ x ∈ L, d ∣ x) : d ∣ gcdL L := (gcdL_dvd _ L rfl).2 d h
theorem Gen.dvd {L : List Int} {d s : Int} (h : ∀ x ∈ L, d ∣ x) (g : Gen L s) : d ∣ s := by
  induction g with
  | zero => exact ⟨0, by simp⟩
  | add hg _ ih => exact Int.dvd_add ih (h _ hg)
/-- the same sums, the same divisor -/
theorem gcdL_gen {L L' : List Int} (h : ∀ x ∈ L, Gen L' x) (h' : ∀ x ∈ L', Gen L x) : gcdL L = gcdL L' := by
  have a : gcdL L ∣ gcdL L' := gcdL_of fun x hx => (h' x hx).dvd fun y hy => gcdL_mem hy
  have b : gcdL L' ∣ gcdL L := gcdL_of fun x hx => (h x hx).dvd fun y hy => gcdL_mem hy
  exact Int.dvd_antisymm (gcdL_nn L) (gcdL_nn L') a b

/-! ## least members by rests -/
structure Ap (L : List Int) (m : Nat) (f : List (Option Int)) : Prop where
  len : f.length = m
  sound : ∀ (r : Nat) (w : Int), f[r]? = some (some w) → Gen L w ∧ w % m = r
  least : ∀ s : Int, Gen L s → ∃ w, f[(s % m).toNat]? = some (some w) ∧ w ≤ s
theorem ap_le {L : List Int} {m : Nat} {f g : List (Option Int)} (a : Ap L m f) (b : Ap L m g) {r : Nat} {w : Int} (h : f[r]? = some (some w)) : ∃ v, g[r]? = some (some v) ∧ v ≤ w := by
  obtain ⟨h1, h2⟩ := a.sound r w h
  obtain ⟨v, h3, h4⟩ := b.least w h1
  rw [h2, Int.toNat_natCast] at h3
  exact ⟨v, h3, h4⟩
theorem ap_unique {L : List Int} {m : Nat} {f g : List (Option Int)} (a : Ap L m f) (b : Ap L m g) : f = g := by
  refine List.ext_getElem? fun r => ?_
  by_cases hr : r < m
  · have ef : r < f.length := by rw [a.len]; exact hr
    have eg : r < g.length := by rw [b.len]; exact hr
    cases hf : f[r] with
    | none =>
      cases hg : g[r] with
      | none => rw [List.getElem?_eq_getElem ef, List.getElem?_eq_getElem eg, hf, hg]
      | some v =>
        obtain ⟨w, h1, _⟩ := ap_le b a (show g[r]? = some (some v) by rw [List.getElem?_eq_getElem eg, hg])
        rw [List.getElem?_eq_getElem ef, hf] at h1
        cases h1
    | some w =>
      have h0 : f[r]? = some (some w) := by rw [List.getElem?_eq_getElem ef, hf]
      obtain ⟨v, h1, h2⟩ := ap_le a b h0
      obtain ⟨w', h3, h4⟩ := ap_le b a h1
      rw [h0] at h3
      cases h3
      rw [h0, h1]
      have : v = w := by omega
      rw [this]
  · rw [List.getElem?_eq_none (by rw [a.len]; omega), List.getElem?_eq_none (by rw [b.len]; omega)]
theorem Ap.congr {L L' : List Int} {m : Nat} {f : List (Option Int)} (a : Ap L m f) (h : ∀ s, Gen L s ↔ Gen L' s) : Ap L' m f :=
  ⟨a.len, fun r w e => ⟨(h w).mp (a.sound r w e).1, (a.sound r w e).2⟩, fun s hs => a.least s ((h s).mpr hs)⟩
theorem ap_nil {m : Nat} (hm : 0 < m) : Ap [] m (some 0 :: List.replicate (m - 1) none) := by
  refine ⟨by rw [List.length_cons, List.length_replicate]; omega, fun r w h => ?_, fun s hs => ?_⟩
  · cases r with
    | zero => cases h; exact ⟨.zero, by simp⟩
    | succ r =>
      rw [List.getElem?_cons_succ, List.getElem?_replicate] at h
      split at h
      · cases h
      · cases h
  · rw [gen_nil.mp hs]
    exact ⟨0, by simp, Int.le_refl 0⟩
/-- g steps round the rests -/
def Rl (f f' : List (Option Int)) : Prop := f'.length = f.length ∧ ∀ (r : Nat) (w : Int), f[r]? = some (some w) → ∃ v, f'[r]? = some (some v) ∧ v ≤ w
theorem Rl.refl (f : List (Option Int)) : Rl f f := ⟨rfl, fun _ w h => ⟨w, h, Int.le_refl w⟩⟩
theorem Rl.trans {f g h : List (Option Int)} (a : Rl f g) (b : Rl g h) : Rl f h := ⟨b.1.trans a.1, fun r w e => by
  obtain ⟨v, e1, l1⟩ := a.2 r w e
  obtain ⟨u, e2, l2⟩ := b.2 r v e1
  exact ⟨u, e2, Int.le_trans l2 l1⟩⟩
def Sd (L : List Int) (m : Nat) (f : List (Option Int)) : Prop := f.length = m ∧ ∀ (r : Nat) (w : Int), f[r]? = some (some w) → Gen L w ∧ w % m = r
theorem Sd.mono {L L' : List Int} {m : Nat} {f : List (Option Int)} (h : Sd L m f) (k : ∀ s, Gen L s → Gen L' s) : Sd L' m f := ⟨h.1, fun r w e => ⟨k w (h.2 r w e).1, (h.2 r w e).2⟩⟩
theorem Sd.set {L : List Int} {m : Nat} {f : List (Option Int)} (h : Sd L m f) {r : Nat} {w : Int} (hr : r < m) (hg : Gen L w) (hw : w % m = r) : Sd L m (f.set r (some w)) := by
  refine ⟨by rw [List.length_set]; exact h.1, fun r' w' e => ?_⟩
  rw [List.getElem?_set] at e
  by_cases hq : r = r'
  · subst hq
    rw [if_pos rfl, if_pos (by rw [h.1]; exact hr)] at e
    cases e
    exact ⟨hg, hw⟩
  · rw [if_neg hq] at e
    exact h.2 r' w' e
theorem Rl.set {f : List (Option Int)} {r : Nat} {v : Int} (h : ∀ w, f[r]? = some (some w) → v ≤ w) : Rl f (f.set r (some v)) := by
  refine ⟨List.length_set .., fun r' w e => ?_⟩
  by_cases hq : r = r'
  · subst hq
    have hl : r < f.length := (List.getElem?_eq_some_iff.mp e).1
    exact ⟨v, by rw [List.getElem?_set_self hl], h w e⟩
  · exact ⟨w, by rw [List.getElem?_set_ne hq]; exact e, Int.le_refl w⟩
/-! ### rests that are reached -/
theorem bez (a b : Nat) : ∃ x y : Int, x * a + y * b = Nat.gcd a b := by
  induction a, b using Nat.gcd.induction with
  | H0 n => exact ⟨0, 1, by simp⟩
  | H1 m n hm ih =>
    obtain ⟨x, y, h⟩ := ih
    refine ⟨y - x * ((n / m : Nat) : Int), x, ?_⟩
    rw [Nat.gcd_rec, ← h]
    have e : ((n % m : Nat) : Int) = n - ((n / m : Nat) : Int) * m := by
      have := Nat.div_add_mod n m
      have h2 : ((m * (n / m) + n % m : Nat) : Int) = (n : Int) := by rw [this]
      rw [Int.natCast_add, Int.natCast_mul] at h2
      rw [Int.mul_comm]
      omega
    rw [e, Int.mul_sub, Int.sub_mul, Int.mul_assoc]
    omega
/-- the rest ρ is met on the way from its own rest by the common divisor -/
theorem circle {m : Nat} {g : Int} (hm : 0 < m) (hg : 0 < g) {ρ : Int} (h0 : 0 ≤ ρ) (h1 : ρ < m) :
    ∃ q : Nat, q < m / Int.gcd g m ∧ (ρ % (Int.gcd g m : Nat) + (q : Int) * g) % m = ρ := by
  have hd : 0 < Int.gcd g m := Int.gcd_pos_of_ne_zero_left _ (by omega)
  have hdm : (Int.gcd g m : Nat) ∣ m := by
    have := Int.gcd_dvd_right (a := g) (b := (m : Int))
    exact Int.natCast_dvd_natCast.mp this
  obtain ⟨u, hu⟩ := hdm
  obtain ⟨c, hc⟩ : ((Int.gcd g m : Nat) : Int) ∣ g := Int.gcd_dvd_left ..
  have hn : m / Int.gcd g m = u := by
    conv => lhs; lhs; rw [hu]
    exact Nat.mul_div_cancel_left u hd
  have hu0 : 0 < u := by
    rcases Nat.eq_zero_or_pos u with e | e
    · rw [e, Nat.mul_zero] at hu; omega
    · exact e
  obtain ⟨x, y, hb⟩ := bez g.toNat m
  have eg : Nat.gcd g.toNat m = Int.gcd g m := by
    unfold Int.gcd
    congr 1
    omega
  rw [eg] at hb
  have hgt : ((g.toNat : Nat) : Int) = g := Int.toNat_of_nonneg (by omega)
  rw [hgt] at hb
  generalize hD : Int.gcd g m = d at *
  -- ρ = (ρ / d) d + ρ % d; d = x g + y m
  refine ⟨((ρ / d * x) % u).toNat, ?_, ?_⟩
  · rw [hn]
    have := Int.emod_lt_of_pos (ρ / d * x) (show (0 : Int) < u by omega)
    have := Int.emod_nonneg (ρ / d * x) (show (u : Int) ≠ 0 by omega)
    omega
  · have e0 : ((((ρ / d * x) % u).toNat : Nat) : Int) = (ρ / d * x) % u := Int.toNat_of_nonneg (Int.emod_nonneg _ (by omega))
    rw [e0]
    have e1 : (ρ / d * x) % u = ρ / d * x - u * (ρ / d * x / u) := Int.emod_def ..
    have e2 : ρ = d * (ρ / d) + ρ % d := (Int.mul_ediv_add_emod ρ d).symm
    have e3 : ρ % d + (ρ / d * x) % u * g = ρ + m * (- (ρ / d * y) - (ρ / d * x / u) * c) := by
      have hm2 : (m : Int) = d * u := by rw [hu]; simp
      rw [e1, Int.sub_mul]
      have a1 : ρ / d * x * g = ρ / d * d - ρ / d * y * m := by
        have : x * g = d - y * m := by omega
        rw [Int.mul_assoc, this, Int.mul_sub, Int.mul_assoc]
      have a2 : u * (ρ / d * x / u) * g = m * ((ρ / d * x / u) * c) := by
        rw [hm2]
        conv => lhs; rw [hc]
        simp only [Int.mul_comm, Int.mul_left_comm, Int.mul_assoc]
      rw [a1, a2, Int.mul_sub, Int.mul_neg]
      have a3 : ρ / d * y * m = m * (ρ / d * y) := Int.mul_comm ..
      have a4 : ρ / d * d = d * (ρ / d) := Int.mul_comm ..
      omega
    rw [e3, Int.add_mul_emod_self_left, Int.emod_eq_of_lt h0 h1]
/-- a whole turn leads back -/
theorem turn {m : Nat} {g : Int} (hg : 0 < g) (r : Int) : (r + ((m / Int.gcd g m : Nat) : Int) * g) % m = r % m := by
  obtain ⟨c, hc⟩ : ((Int.gcd g m : Nat) : Int) ∣ g := Int.gcd_dvd_left ..
  have hdm : (Int.gcd g m : Nat) ∣ m := Int.natCast_dvd_natCast.mp (Int.gcd_dvd_right (a := g) (b := (m : Int)))
  have e : ((m / Int.gcd g m : Nat) : Int) * g = m * c := by
    have h1 : m / Int.gcd g m * Int.gcd g m = m := Nat.div_mul_cancel hdm
    have h2 : ((m / Int.gcd g m : Nat) : Int) * (Int.gcd g m : Nat) = m := by rw [← Int.natCast_mul, h1]
    have h3 : ((m / Int.gcd g m : Nat) : Int) * g = ((m / Int.gcd g m : Nat) : Int) * (((Int.gcd g m : Nat) : Int) * c) := congrArg _ hc
    rw [h3, ← Int.mul_assoc, h2]
  rw [e, Int.add_mul_emod_self_left]

/-! ## the two ways to the least members -/
theorem emod_add_l (a b m : Int) : (a % m + b) % m = (a + b) % m := by rw [Int.add_emod, Int.emod_emod_of_dvd _ (Int.dvd_refl m), ← Int.add_emod]
/-- one step: the law's -/
def relF (g : Int) (f : List (Option Int)) (r s : Nat) : List (Option Int) := match f[r]? with
  | some (some a) => match f[s]? with
    | some none => f.set s (some (a + g))
    | some (some b) => if a + g < b then f.set s (some (a + g)) else f
    | none => f
  | _ => f
theorem relF_rl (g : Int) (f : List (Option Int)) (r s : Nat) : Rl f (relF g f r s) := by
  unfold relF
  split
  · rename_i a ha
    split
    · rename_i hb
      exact Rl.set fun w e => by rw [hb] at e; cases e
    · rename_i b hb
      split
      · exact Rl.set fun w e => by rw [hb] at e; cases e; omega
      · exact Rl.refl f
    · exact Rl.refl f
  · exact Rl.refl f
theorem relF_edge {g : Int} (hg : 0 < g) {f : List (Option Int)} {r s : Nat} {a : Int} (hs : s < f.length) (ha : f[r]? = some (some a)) : ∃ v, (relF g f r s)[s]? = some (some v) ∧ v ≤ a + g := by
  unfold relF
  rw [ha]
  dsimp only
  split
  · exact ⟨a + g, List.getElem?_set_self hs, Int.le_refl _⟩
  · rename_i b hb
    split
    · exact ⟨a + g, List.getElem?_set_self hs, Int.le_refl _⟩
    · exact ⟨b, hb, by omega⟩
  · rename_i hb
    rw [List.getElem?_eq_getElem hs] at hb
    cases hb
theorem relF_sd {L : List Int} {m : Nat} {g : Int} {f : List (Option Int)} {r s : Nat} (h : Sd L m f) (hg : g ∈ L) (hs : s < m) (he : ((r : Int) + g) % m = s) : Sd L m (relF g f r s) := by
  have key : ∀ a, f[r]? = some (some a) → Sd L m (f.set s (some (a + g))) := fun a ha => by
    obtain ⟨h1, h2⟩ := h.2 r a ha
    refine h.set hs (.add hg h1) ?_
    rw [← he, ← h2, emod_add_l]
  unfold relF
  split
  · rename_i a ha
    split
    · exact key a ha
    · split
      · exact key a ha
      · exact h
    · exact h
  · exact h
def rotN (m : Nat) (g : Int) (σ : Int) (i : Nat) : Nat := ((σ + (i : Int) * g) % m).toNat
theorem rotN_lt {m : Nat} {g σ : Int} {i : Nat} (hm : 0 < m) : rotN m g σ i < m := by
  unfold rotN
  have := Int.emod_lt_of_pos (σ + (i : Int) * g) (show (0 : Int) < m by omega)
  have := Int.emod_nonneg (σ + (i : Int) * g) (show (m : Int) ≠ 0 by omega)
  omega
theorem rotN_cast {m : Nat} {g σ : Int} {i : Nat} (hm : 0 < m) : ((rotN m g σ i : Nat) : Int) = (σ + (i : Int) * g) % m := by
  unfold rotN
  exact Int.toNat_of_nonneg (Int.emod_nonneg _ (by omega))
theorem rotN_succ {m : Nat} {g σ : Int} {i : Nat} (hm : 0 < m) : ((rotN m g σ i : Nat) + g) % m = (rotN m g σ (i + 1) : Nat) := by
  rw [rotN_cast hm, rotN_cast hm, emod_add_l, Int.natCast_add, Int.add_mul]
  congr 1
  simp
  omega
/-- the law's way round a circle: n steps -/
def goL (m : Nat) (g σ : Int) (f : List (Option Int)) (n : Nat) : List (Option Int) := (List.range n).foldl (fun f i => relF g f (rotN m g σ i) (rotN m g σ (i + 1))) f
theorem goL_succ (m : Nat) (g σ : Int) (f : List (Option Int)) (n : Nat) : goL m g σ f (n + 1) = relF g (goL m g σ f n) (rotN m g σ n) (rotN m g σ (n + 1)) := by
  unfold goL
  rw [List.range_succ, List.foldl_append]
  rfl
theorem goL_rl (m : Nat) (g σ : Int) (f : List (Option Int)) : ∀ (n k : Nat), Rl (goL m g σ f n) (goL m g σ f (n + k))
  | n, 0 => Rl.refl _
  | n, k + 1 => (goL_rl m g σ f n k).trans (by rw [← Nat.add_assoc, goL_succ]; exact relF_rl _ _ _ _)
theorem goL_rl0 (m : Nat) (g σ : Int) (f : List (Option Int)) (n : Nat) : Rl f (goL m g σ f n) := by
  have h := goL_rl m g σ f 0 n
  rw [Nat.zero_add] at h
  exact h
theorem goL_sd {L : List Int} {m : Nat} {g σ : Int} {f : List (Option Int)} (hm : 0 < m) (h : Sd L m f) (hg : g ∈ L) : ∀ n, Sd L m (goL m g σ f n)
  | 0 => h
  | n + 1 => by rw [goL_succ]; exact relF_sd (goL_sd hm h hg n) hg (rotN_lt hm) (rotN_succ hm)
theorem goL_path {L : List Int} {m : Nat} {g σ : Int} {f : List (Option Int)} (hm : 0 < m) (hg : 0 < g) (hf : f.length = m) {q : Nat} {a : Int} (ha : (goL m g σ f q)[rotN m g σ q]? = some (some a)) :
    ∀ j : Nat, ∃ v, (goL m g σ f (q + j))[rotN m g σ (q + j)]? = some (some v) ∧ v ≤ a + (j : Int) * g
  | 0 => ⟨a, ha, by simp⟩
  | j + 1 => by
    obtain ⟨v, h1, h2⟩ := goL_path (L := L) hm hg hf ha j
    have hl : (goL m g σ f (q + j)).length = m := by rw [(goL_rl0 m g σ f (q + j)).1, hf]
    obtain ⟨u, h3, h4⟩ := relF_edge hg (s := rotN m g σ (q + j + 1)) (by rw [hl]; exact rotN_lt hm) h1
    rw [← Nat.add_assoc, goL_succ]
    refine ⟨u, h3, ?_⟩
    rw [Int.natCast_add, Int.add_mul]
    simp
    omega
/-- all circles -/
def stepL (m : Nat) (f : List (Option Int)) (g : Int) : List (Option Int) := (List.range (Int.gcd g m)).foldl (fun f (σ : Nat) => goL m g σ f (2 * (m / Int.gcd g m))) f
theorem fold_rl {α : Type} {F : List (Option Int) → α → List (Option Int)} (h : ∀ f x, Rl f (F f x)) : ∀ (l : List α) (f : List (Option Int)), Rl f (l.foldl F f)
  | [], f => Rl.refl f
  | x :: l, f => (h f x).trans (fold_rl h l (F f x))
theorem fold_sd {α : Type} {L : List Int} {m : Nat} {F : List (Option Int) → α → List (Option Int)} (h : ∀ f x, Sd L m f → Sd L m (F f x)) : ∀ (l : List α) (f : List (Option Int)), Sd L m f → Sd L m (l.foldl F f)
  | [], f, k => k
  | x :: l, f, k => fold_sd h l (F f x) (h f x k)
theorem fold_at {α : Type} {F : List (Option Int) → α → List (Option Int)} (h : ∀ f x, Rl f (F f x)) {l : List α} {x : α} (hx : x ∈ l) (f : List (Option Int)) : ∃ f1, Rl f f1 ∧ Rl (F f1 x) (l.foldl F f) := by
  obtain ⟨a, b, rfl⟩ := List.append_of_mem hx
  refine ⟨a.foldl F f, fold_rl h a f, ?_⟩
  rw [List.foldl_append]
  exact fold_rl h b _
/-- enough: what one circle does -/
theorem step_of {L : List Int} {m : Nat} {g : Int} {f : List (Option Int)} {F : List (Option Int) → Nat → List (Option Int)} (hm : 0 < m) (hg : 0 < g) (hp : PosL L) (h : Ap L m f) (rl : ∀ f x, Rl f (F f x)) (sd : ∀ f x, Sd (L ++ [g]) m f → Sd (L ++ [g]) m (F f x))
    (path : ∀ (f : List (Option Int)) (σ q : Nat) (t : Int) (k : Nat), Sd (L ++ [g]) m f → q < m / Int.gcd g m → k < m / Int.gcd g m → (∃ a, f[rotN m g σ q]? = some (some a) ∧ a ≤ t) → ∃ v, (F f σ)[rotN m g σ (q + k)]? = some (some v) ∧ v ≤ t + (k : Int) * g) :
    Ap (L ++ [g]) m ((List.range (Int.gcd g m)).foldl F f) := by
  have sd0 : Sd (L ++ [g]) m f := Sd.mono ⟨h.len, h.sound⟩ fun s hs => hs.mono fun x hx => List.mem_append_left _ hx
  obtain ⟨l1, s1⟩ := fold_sd sd (List.range (Int.gcd g m)) f sd0
  refine ⟨l1, s1, fun s hs => ?_⟩
  have hd : 0 < Int.gcd g m := Int.gcd_pos_of_ne_zero_left _ (by omega)
  have hn : 0 < m / Int.gcd g m := Nat.div_pos (Nat.le_of_dvd hm (Int.natCast_dvd_natCast.mp (Int.gcd_dvd_right (a := g) (b := (m : Int))))) hd
  obtain ⟨k, t, ht, rfl⟩ := gen_snoc.mp hs
  -- fewer steps do
  have main : ∀ k : Nat, k < m / Int.gcd g m → ∃ w, ((List.range (Int.gcd g m)).foldl F f)[((t + (k : Int) * g) % m).toNat]? = some (some w) ∧ w ≤ t + (k : Int) * g := fun k hk => by
    have r0 := Int.emod_nonneg t (show (m : Int) ≠ 0 by omega)
    have r1 := Int.emod_lt_of_pos t (show (0 : Int) < m by omega)
    obtain ⟨q, hq, e⟩ := circle hm hg r0 r1
    have s0 := Int.emod_nonneg (t % m) (show ((Int.gcd g m : Nat) : Int) ≠ 0 by omega)
    have s1 := Int.emod_lt_of_pos (t % m) (show (0 : Int) < (Int.gcd g m : Nat) by omega)
    obtain ⟨σ, hσ⟩ : ∃ σ : Nat, (t % m) % (Int.gcd g m : Nat) = σ := ⟨((t % m) % (Int.gcd g m : Nat)).toNat, (Int.toNat_of_nonneg s0).symm⟩
    rw [hσ] at e s1
    obtain ⟨f1, k1, k2⟩ := fold_at (F := F) rl (List.mem_range.mpr (show σ < Int.gcd g m by omega)) f
    have sd1 : ∃ f1, Rl f f1 ∧ Sd (L ++ [g]) m f1 ∧ Rl (F f1 σ) ((List.range (Int.gcd g m)).foldl F f) := by
      obtain ⟨a, b, eab⟩ := List.append_of_mem (List.mem_range.mpr (show σ < Int.gcd g m by omega))
      refine ⟨a.foldl F f, fold_rl rl a f, fold_sd sd a f sd0, ?_⟩
      rw [eab, List.foldl_append]
      exact fold_rl rl b _
    obtain ⟨f1, k1, sd1, k2⟩ := sd1
    obtain ⟨a, ha, la⟩ := h.least t ht
    obtain ⟨a1, ha1, la1⟩ := k1.2 _ _ ha
    have e2 : rotN m g σ q = (t % m).toNat := by unfold rotN; rw [e]
    obtain ⟨v, hv, lv⟩ := path f1 σ q t k sd1 hq hk ⟨a1, by rw [e2]; exact ha1, by omega⟩
    obtain ⟨w, hw, lw⟩ := k2.2 _ _ hv
    refine ⟨w, ?_, by omega⟩
    have e3 : rotN m g σ (q + k) = ((t + (k : Int) * g) % m).toNat := by
      unfold rotN
      congr 1
      rw [Int.natCast_add, Int.add_mul, ← Int.add_assoc, ← emod_add_l, e, emod_add_l]
    rw [← e3]
    exact hw
  obtain ⟨w, hw, lw⟩ := main (k % (m / Int.gcd g m)) (Nat.mod_lt _ hn)
  refine ⟨w, ?_, ?_⟩
  · have e : ∀ j : Nat, (t + (((k % (m / Int.gcd g m)) + j * (m / Int.gcd g m) : Nat) : Int) * g) % m = (t + ((k % (m / Int.gcd g m) : Nat) : Int) * g) % m := by
      intro j
      induction j with
      | zero => simp
      | succ j ih =>
        rw [← ih]
        have := turn (m := m) hg (t + (((k % (m / Int.gcd g m)) + j * (m / Int.gcd g m) : Nat) : Int) * g)
        rw [← this]
        congr 1
        rw [Nat.add_mul, Nat.one_mul, ← Nat.add_assoc, Int.natCast_add (k % (m / Int.gcd g m) + j * (m / Int.gcd g m)), Int.add_mul]
        omega
    have e2 := e (k / (m / Int.gcd g m))
    have e3 : k % (m / Int.gcd g m) + k / (m / Int.gcd g m) * (m / Int.gcd g m) = k := Nat.mod_add_div' _ _
    rw [e3] at e2
    rw [e2]
    exact hw
  · have h1 : ((k % (m / Int.gcd g m) : Nat) : Int) ≤ (k : Int) := by have := Nat.mod_le k (m / Int.gcd g m); omega
    have := Int.mul_le_mul_of_nonneg_right h1 (show 0 ≤ g by omega)
    omega
theorem stepL_ap {L : List Int} {m : Nat} {g : Int} {f : List (Option Int)} (hm : 0 < m) (hg : 0 < g) (hp : PosL L) (h : Ap L m f) : Ap (L ++ [g]) m (stepL m f g) := by
  refine step_of (F := fun f (σ : Nat) => goL m g σ f (2 * (m / Int.gcd g m))) hm hg hp h (fun f σ => goL_rl0 m g σ f _) (fun f σ sd => goL_sd hm sd (List.mem_append_right _ List.mem_cons_self) _) fun f σ q t k sd hq hk ⟨a, ha, la⟩ => ?_
  have r1 : Rl f (goL m g σ f q) := goL_rl0 m g σ f q
  obtain ⟨a1, ha1, la1⟩ := r1.2 _ _ ha
  obtain ⟨v, hv, lv⟩ := goL_path (L := L) hm hg sd.1 ha1 k
  obtain ⟨w, hw, lw⟩ := (goL_rl m g σ f (q + k) (2 * (m / Int.gcd g m) - (q + k))).2 _ _ hv
  rw [show q + k + (2 * (m / Int.gcd g m) - (q + k)) = 2 * (m / Int.gcd g m) by omega] at hw
  exact ⟨w, hw, by omega⟩

/-! ### the program's way: from the least known one, once round -/
def nowF (f : List (Option Int)) (now : Int) (r : Nat) : Int := match f[r]? with
  | some (some a) => min now a
  | _ => now
def walkF (g : Int) (st : List (Option Int) × Int) (r : Nat) : List (Option Int) × Int := (st.1.set r (some (nowF st.1 st.2 r)), nowF st.1 st.2 r + g)
def walkN (m : Nat) (g σ v : Int) (f : List (Option Int)) (n : Nat) : List (Option Int) × Int := (List.range n).foldl (fun st i => walkF g st (rotN m g σ i)) (f, v)
theorem walkN_succ (m : Nat) (g σ v : Int) (f : List (Option Int)) (n : Nat) : walkN m g σ v f (n + 1) = walkF g (walkN m g σ v f n) (rotN m g σ n) := by
  unfold walkN
  rw [List.range_succ, List.foldl_append]
  rfl
theorem nowF_le (f : List (Option Int)) (now : Int) (r : Nat) : nowF f now r ≤ now := by
  unfold nowF
  split
  · omega
  · exact Int.le_refl _
theorem nowF_at {f : List (Option Int)} {now : Int} {r : Nat} {a : Int} (h : f[r]? = some (some a)) : nowF f now r ≤ a := by
  unfold nowF
  rw [h]
  dsimp only
  omega
theorem walkF_rl (g : Int) (st : List (Option Int) × Int) (r : Nat) : Rl st.1 (walkF g st r).1 := Rl.set fun w e => nowF_at e
theorem walkN_rl (m : Nat) (g σ v : Int) (f : List (Option Int)) : ∀ (n k : Nat), Rl (walkN m g σ v f n).1 (walkN m g σ v f (n + k)).1
  | n, 0 => Rl.refl _
  | n, k + 1 => (walkN_rl m g σ v f n k).trans (by rw [← Nat.add_assoc, walkN_succ]; exact walkF_rl _ _ _)
theorem walkN_rl0 (m : Nat) (g σ v : Int) (f : List (Option Int)) (n : Nat) : Rl f (walkN m g σ v f n).1 := by
  have h := walkN_rl m g σ v f 0 n
  rw [Nat.zero_add] at h
  exact h
theorem walkN_sd {L : List Int} {m : Nat} {g σ v : Int} {f : List (Option Int)} (hm : 0 < m) (h : Sd L m f) (hg : g ∈ L) (hv : Gen L v) (hσ : v % m = (rotN m g σ 0 : Nat)) :
    ∀ n, Sd L m (walkN m g σ v f n).1 ∧ Gen L (walkN m g σ v f n).2 ∧ (walkN m g σ v f n).2 % m = (rotN m g σ n : Nat)
  | 0 => ⟨h, hv, hσ⟩
  | n + 1 => by
    obtain ⟨h1, h2, h3⟩ := walkN_sd hm h hg hv hσ n
    have key : Gen L (nowF (walkN m g σ v f n).1 (walkN m g σ v f n).2 (rotN m g σ n)) ∧ nowF (walkN m g σ v f n).1 (walkN m g σ v f n).2 (rotN m g σ n) % m = (rotN m g σ n : Nat) := by
      unfold nowF
      split
      · rename_i a ha
        obtain ⟨h4, h5⟩ := h1.2 _ a ha
        by_cases hc : (walkN m g σ v f n).2 ≤ a
        · rw [Int.min_eq_left hc]; exact ⟨h2, h3⟩
        · rw [Int.min_eq_right (by omega)]; exact ⟨h4, h5⟩
      · exact ⟨h2, h3⟩
    rw [walkN_succ]
    refine ⟨h1.set (rotN_lt hm) key.1 key.2, .add hg key.1, ?_⟩
    show (nowF (walkN m g σ v f n).1 (walkN m g σ v f n).2 (rotN m g σ n) + g) % m = _
    rw [← rotN_succ hm, ← key.2, emod_add_l]
theorem walkN_now (m : Nat) {g : Int} (σ v : Int) (f : List (Option Int)) : ∀ n : Nat, (walkN m g σ v f n).2 ≤ v + (n : Int) * g
  | 0 => by show v ≤ _; simp
  | n + 1 => by
    have h := walkN_now m (g := g) σ v f n
    have h2 := nowF_le (walkN m g σ v f n).1 (walkN m g σ v f n).2 (rotN m g σ n)
    rw [walkN_succ, Int.natCast_add, Int.add_mul]
    show nowF (walkN m g σ v f n).1 (walkN m g σ v f n).2 (rotN m g σ n) + g ≤ _
    simp
    omega
theorem walkN_from {m : Nat} {g σ v : Int} {f : List (Option Int)} {i : Nat} {a : Int} (ha : f[rotN m g σ i]? = some (some a)) : ∀ j : Nat, (walkN m g σ v f (i + 1 + j)).2 ≤ a + ((j + 1 : Nat) : Int) * g
  | 0 => by
    obtain ⟨b, hb, lb⟩ := (walkN_rl0 m g σ v f i).2 _ _ ha
    have h2 := nowF_at (now := (walkN m g σ v f i).2) hb
    rw [Nat.add_zero, walkN_succ]
    show nowF (walkN m g σ v f i).1 (walkN m g σ v f i).2 (rotN m g σ i) + g ≤ _
    simp
    omega
  | j + 1 => by
    have h := walkN_from (v := v) ha j
    have h2 := nowF_le (walkN m g σ v f (i + 1 + j)).1 (walkN m g σ v f (i + 1 + j)).2 (rotN m g σ (i + 1 + j))
    rw [← Nat.add_assoc, walkN_succ, Int.natCast_add (j + 1), Int.add_mul]
    show nowF (walkN m g σ v f (i + 1 + j)).1 (walkN m g σ v f (i + 1 + j)).2 (rotN m g σ (i + 1 + j)) + g ≤ _
    rw [show ((1 : Nat) : Int) * g = g by simp]
    omega
theorem walkN_val {m : Nat} {g σ v : Int} {f : List (Option Int)} (hm : 0 < m) (hf : f.length = m) {i n : Nat} (h : i < n) : ∃ x, (walkN m g σ v f n).1[rotN m g σ i]? = some (some x) ∧ x + g ≤ (walkN m g σ v f (i + 1)).2 := by
  have hl : (walkN m g σ v f i).1.length = m := by rw [(walkN_rl0 m g σ v f i).1, hf]
  have e : (walkN m g σ v f (i + 1)).1[rotN m g σ i]? = some (some (nowF (walkN m g σ v f i).1 (walkN m g σ v f i).2 (rotN m g σ i))) := by
    rw [walkN_succ]
    exact List.getElem?_set_self (by rw [hl]; exact rotN_lt hm)
  obtain ⟨x, hx, lx⟩ := (walkN_rl m g σ v f (i + 1) (n - (i + 1))).2 _ _ e
  rw [show i + 1 + (n - (i + 1)) = n by omega] at hx
  refine ⟨x, hx, ?_⟩
  rw [walkN_succ]
  show x + g ≤ nowF (walkN m g σ v f i).1 (walkN m g σ v f i).2 (rotN m g σ i) + g
  omega
theorem rotN_turn {m : Nat} {g σ : Int} (hg : 0 < g) (i : Nat) : rotN m g σ (i + m / Int.gcd g m) = rotN m g σ i := by
  unfold rotN
  rw [Int.natCast_add, Int.add_mul, ← Int.add_assoc, turn hg]
theorem rotN_rot {m : Nat} {g σ : Int} (at_ i : Nat) : rotN m g ((σ + (at_ : Int) * g) % m) i = rotN m g σ (at_ + i) := by
  unfold rotN
  rw [emod_add_l, Int.natCast_add, Int.add_mul, Int.add_assoc]
def circL (m : Nat) (g : Int) (σ : Nat) : List Nat := (List.range (m / Int.gcd g m)).map fun k => rotN m g σ k
def knownL (f : List (Option Int)) (c : List Nat) : List Int := c.filterMap fun r => (f[r]?).join
def minLs : List Int → Int
  | [] => 0
  | x :: r => r.foldl min x
theorem foldl_min : ∀ (r : List Int) (x : Int), r.foldl min x ∈ x :: r ∧ ∀ y ∈ x :: r, r.foldl min x ≤ y
  | [], x => ⟨List.mem_cons_self, fun y hy => by rw [List.mem_singleton.mp hy]; exact Int.le_refl x⟩
  | z :: r, x => by
    obtain ⟨h1, h2⟩ := foldl_min r (min x z)
    rw [List.foldl_cons]
    refine ⟨?_, fun y hy => ?_⟩
    · rcases List.mem_cons.mp h1 with h | h
      · rw [h]
        by_cases hc : x ≤ z
        · rw [Int.min_eq_left hc]; exact List.mem_cons_self
        · rw [Int.min_eq_right (by omega)]; exact .tail _ List.mem_cons_self
      · exact .tail _ (.tail _ h)
    · have h3 := h2 (min x z) List.mem_cons_self
      rcases List.mem_cons.mp hy with rfl | hy
      · omega
      · rcases List.mem_cons.mp hy with rfl | hy
        · omega
        · exact h2 y (.tail _ hy)
theorem minLs_facts {c : List Int} (h : c ≠ []) : minLs c ∈ c ∧ ∀ y ∈ c, minLs c ≤ y := by
  cases c with
  | nil => exact absurd rfl h
  | cons x r => exact foldl_min r x
/-- one circle of the program -/
def goP (m : Nat) (g : Int) (f : List (Option Int)) (σ : Nat) : List (Option Int) :=
  if knownL f (circL m g σ) = [] then f else (walkN m g (minLs (knownL f (circL m g σ)) % m) (minLs (knownL f (circL m g σ))) f (m / Int.gcd g m)).1
theorem known_mem {f : List (Option Int)} {c : List Nat} {w : Int} : w ∈ knownL f c ↔ ∃ r ∈ c, f[r]? = some (some w) := by
  unfold knownL
  rw [List.mem_filterMap]
  constructor
  · rintro ⟨r, hr, e⟩
    refine ⟨r, hr, ?_⟩
    cases h : f[r]? with
    | none => rw [h] at e; cases e
    | some x =>
      rw [h] at e
      have e : x = some w := e
      rw [e]
  · rintro ⟨r, hr, e⟩
    exact ⟨r, hr, by rw [e]; rfl⟩
theorem goP_start {L : List Int} {m : Nat} {g : Int} {f : List (Option Int)} {σ : Nat} (hm : 0 < m) (h : Sd L m f) (hk : knownL f (circL m g σ) ≠ []) :
    ∃ p, p < m / Int.gcd g m ∧ minLs (knownL f (circL m g σ)) % m = ((σ : Int) + (p : Int) * g) % m ∧ f[rotN m g σ p]? = some (some (minLs (knownL f (circL m g σ)))) := by
  obtain ⟨h1, _⟩ := minLs_facts hk
  obtain ⟨r, hr, e⟩ := known_mem.mp h1
  unfold circL at hr
  obtain ⟨p, hp, rfl⟩ := List.mem_map.mp hr
  refine ⟨p, List.mem_range.mp hp, ?_, e⟩
  rw [(h.2 _ _ e).2, rotN_cast hm]
def stepP (m : Nat) (f : List (Option Int)) (g : Int) : List (Option Int) := (List.range (Int.gcd g m)).foldl (goP m g) f
theorem stepP_ap {L : List Int} {m : Nat} {g : Int} {f : List (Option Int)} (hm : 0 < m) (hg : 0 < g) (hp : PosL L) (h : Ap L m f) : Ap (L ++ [g]) m (stepP m f g) := by
  have hgm : g ∈ L ++ [g] := List.mem_append_right _ List.mem_cons_self
  have hd : 0 < Int.gcd g m := Int.gcd_pos_of_ne_zero_left _ (by omega)
  have hn : 0 < m / Int.gcd g m := Nat.div_pos (Nat.le_of_dvd hm (Int.natCast_dvd_natCast.mp (Int.gcd_dvd_right (a := g) (b := (m : Int))))) hd
  refine step_of (F := goP m g) hm hg hp h (fun f σ => ?_) (fun f σ sd => ?_) fun f σ q t k sd hq hk ⟨a, ha, la⟩ => ?_
  · unfold goP
    split
    · exact Rl.refl f
    · exact walkN_rl0 ..
  · by_cases hc : knownL f (circL m g σ) = []
    · unfold goP
      rw [if_pos hc]
      exact sd
    · obtain ⟨p, hp1, hp2, hp3⟩ := goP_start hm sd hc
      unfold goP
      rw [if_neg hc]
      refine (walkN_sd hm sd hgm (sd.2 _ _ hp3).1 ?_ _).1
      rw [rotN_cast hm]
      simp
  · have hmem : a ∈ knownL f (circL m g σ) := known_mem.mpr ⟨_, List.mem_map.mpr ⟨q, List.mem_range.mpr hq, rfl⟩, ha⟩
    have hc : knownL f (circL m g σ) ≠ [] := fun e => by rw [e] at hmem; exact nomatch hmem
    obtain ⟨p, hp1, hp2, hp3⟩ := goP_start hm sd hc
    have hv := (minLs_facts hc).2 a hmem
    unfold goP
    rw [if_neg hc]
    generalize minLs (knownL f (circL m g σ)) = v at *
    rw [hp2]
    -- where q lies behind p
    obtain ⟨i, hi, e⟩ : ∃ i, i < m / Int.gcd g m ∧ rotN m g σ q = rotN m g σ (p + i) ∧ ∀ k, rotN m g σ (q + k) = rotN m g σ (p + (i + k)) := by
      by_cases hqp : p ≤ q
      · exact ⟨q - p, by omega, by congr 1; omega, fun k => by congr 1; omega⟩
      · refine ⟨q + m / Int.gcd g m - p, by omega, ?_, fun k => ?_⟩
        · rw [show p + (q + m / Int.gcd g m - p) = q + m / Int.gcd g m by omega, rotN_turn hg]
        · rw [show p + (q + m / Int.gcd g m - p + k) = q + k + m / Int.gcd g m by omega, rotN_turn hg]
    obtain ⟨e1, e2⟩ := e
    rw [e2]
    rw [e1, ← rotN_rot] at ha
    by_cases hk2 : i + k < m / Int.gcd g m
    · obtain ⟨x, hx, lx⟩ := walkN_val (m := m) (g := g) (σ := ((σ : Int) + (p : Int) * g) % m) (v := v) (f := f) hm sd.1 hk2
      rw [rotN_rot] at hx
      have := walkN_from (v := v) ha k
      rw [show i + 1 + k = i + k + 1 by omega] at this
      rw [Int.natCast_add, Int.add_mul, show ((1 : Nat) : Int) * g = g by simp] at this
      exact ⟨x, hx, by omega⟩
    · have hj : i + k - m / Int.gcd g m < m / Int.gcd g m := by omega
      obtain ⟨x, hx, lx⟩ := walkN_val (m := m) (g := g) (σ := ((σ : Int) + (p : Int) * g) % m) (v := v) (f := f) hm sd.1 hj
      rw [rotN_rot] at hx
      have hnow := walkN_now m (g := g) (((σ : Int) + (p : Int) * g) % m) v f (i + k - m / Int.gcd g m + 1)
      rw [Int.natCast_add, Int.add_mul, show ((1 : Nat) : Int) * g = g by simp] at hnow
      rw [← rotN_turn hg, show p + (i + k - m / Int.gcd g m) + m / Int.gcd g m = p + (i + k) by omega] at hx
      refine ⟨x, hx, ?_⟩
      have h1 : ((i + k - m / Int.gcd g m : Nat) : Int) ≤ k := by omega
      have := Int.mul_le_mul_of_nonneg_right h1 (show 0 ≤ g by omega)
      omega
/-! ### all generators -/
theorem fold_ap {m : Nat} {step : List (Option Int) → Int → List (Option Int)} (h : ∀ L f g, 0 < g → PosL L → Ap L m f → Ap (L ++ [g]) m (step f g)) : ∀ (R L : List Int) (f : List (Option Int)), PosL L → PosL R → Ap L m f → Ap (L ++ R) m (R.foldl step f)
  | [], L, f, _, _, a => by rw [List.append_nil]; exact a
  | g :: R, L, f, hL, hR, a => by
    have hg := hR g List.mem_cons_self
    have := fold_ap h R (L ++ [g]) (step f g) (hL.snoc hg) (fun x hx => hR x (.tail _ hx)) (h L f g hg hL a)
    rw [List.append_assoc] at this
    exact this
def ap0 (m : Nat) : List (Option Int) := some 0 :: List.replicate (m - 1) none
def apL (lot : List Int) (m : Nat) : List (Option Int) := lot.foldl (stepL m) (ap0 m)
def apP (lot : List Int) (m : Nat) : List (Option Int) := lot.foldl (stepP m) (ap0 m)
theorem apL_ap {lot : List Int} {m : Nat} (hm : 0 < m) (hp : PosL lot) : Ap lot m (apL lot m) := fold_ap (fun L f g hg hL a => stepL_ap hm hg hL a) lot [] _ PosL.nil hp (ap_nil hm)
theorem apP_ap {lot : List Int} {m : Nat} (hm : 0 < m) (hp : PosL lot) : Ap lot m (apP lot m) := fold_ap (fun L f g hg hL a => stepP_ap hm hg hL a) lot [] _ PosL.nil hp (ap_nil hm)
theorem ap_same {lot : List Int} {m : Nat} (hm : 0 < m) (hp : PosL lot) : apP lot m = apL lot m := ap_unique (apP_ap hm hp) (apL_ap hm hp)

def sg (n : Nat) (f : Nat → Int) : Int := ((List.range n).map f).sum
theorem sg_zero (f : Nat → Int) : sg 0 f = 0 := rfl
theorem sg_succ (n : Nat) (f : Nat → Int) : sg (n + 1) f = sg n f + f n := by
  unfold sg
  rw [List.range_succ, List.map_append, List.sum_append]
  simp
theorem sg_congr {n : Nat} {f g : Nat → Int} (h : ∀ i, i < n → f i = g i) : sg n f = sg n g := by
  induction n with
  | zero => rfl
  | succ n ih => rw [sg_succ, sg_succ, ih fun i hi => h i (Nat.lt_succ_of_lt hi), h n (Nat.lt_succ_self n)]
theorem sg_add (n : Nat) (f g : Nat → Int) : sg n (fun i => f i + g i) = sg n f + sg n g := by
  induction n with
  | zero => rfl
  | succ n ih => rw [sg_succ, sg_succ, sg_succ, ih]; omega
theorem sg_sub (n : Nat) (f g : Nat → Int) : sg n (fun i => f i - g i) = sg n f - sg n g := by
  induction n with
  | zero => rfl
  | succ n ih => rw [sg_succ, sg_succ, sg_succ, ih]; omega
theorem sg_mul (n : Nat) (c : Int) (f : Nat → Int) : sg n (fun i => c * f i) = c * sg n f := by
  induction n with
  | zero => rw [sg_zero, sg_zero, Int.mul_zero]
  | succ n ih => rw [sg_succ, sg_succ, ih, Int.mul_add]
theorem sg_nil (n : Nat) : sg n (fun _ => 0) = 0 := by
  induction n with
  | zero => rfl
  | succ n ih => rw [sg_succ, ih]; rfl
theorem sg_upd {n r : Nat} {f g : Nat → Int} {d : Int} (hr : r < n) (h : ∀ i, i < n → i ≠ r → f i = g i) (h2 : f r = g r + d) : sg n f = sg n g + d := by
  induction n with
  | zero => omega
  | succ n ih =>
    rw [sg_succ, sg_succ]
    by_cases e : r = n
    · subst e
      rw [sg_congr (f := f) (g := g) fun i hi => h i (Nat.lt_succ_of_lt hi) (by omega), h2]
      omega
    · rw [ih (by omega) fun i hi => h i (Nat.lt_succ_of_lt hi), h n (Nat.lt_succ_self n) (by omega)]
      omega
theorem sg_one {n r : Nat} (hr : r < n) (x : Int) : sg n (fun i => if i = r then x else 0) = x := by
  have := sg_upd (n := n) (r := r) (f := fun i => if i = r then x else 0) (g := fun _ => 0) (d := x) hr (fun i _ h => if_neg h) (by show (if r = r then x else 0) = 0 + x; rw [if_pos rfl]; omega)
  rw [this, sg_nil]
  omega
theorem sg_comm (n m : Nat) (f : Nat → Nat → Int) : sg n (fun i => sg m (f i)) = sg m (fun j => sg n (fun i => f i j)) := by
  induction n with
  | zero =>
    show 0 = sg m fun j => 0
    rw [sg_nil]
  | succ n ih =>
    rw [sg_succ, ih, ← sg_add]
    refine sg_congr fun j _ => ?_
    rw [sg_succ]
/-! ## every rest has a member -/
section
variable {L : List Int} {m : Nat}
def Rst (L : List Int) (m : Nat) (x : Int) : Prop := ∃ s, Gen L s ∧ s % m = x % m
theorem Rst.add {x y : Int} (a : Rst L m x) (b : Rst L m y) : Rst L m (x + y) := by
  obtain ⟨s, hs, e⟩ := a
  obtain ⟨t, ht, e2⟩ := b
  exact ⟨s + t, hs.plus ht, by rw [Int.add_emod, e, e2, ← Int.add_emod]⟩
theorem Rst.mul {x : Int} (a : Rst L m x) (k : Nat) : Rst L m ((k : Int) * x) := by
  obtain ⟨s, hs, e⟩ := a
  exact ⟨(k : Int) * s, hs.mul k, by rw [Int.mul_emod, e, ← Int.mul_emod]⟩
theorem Rst.neg (hm : 0 < m) {x : Int} (a : Rst L m x) : Rst L m (-x) := by
  obtain ⟨s, hs, e⟩ := a.mul (m - 1)
  refine ⟨s, hs, ?_⟩
  rw [e]
  have h : ((m - 1 : Nat) : Int) * x = -x + m * x := by
    rw [show ((m - 1 : Nat) : Int) = (m : Int) - 1 by omega, Int.sub_mul]
    omega
  rw [h, Int.add_mul_emod_self_left]
theorem Rst.zmul (hm : 0 < m) {x : Int} (a : Rst L m x) (k : Int) : Rst L m (k * x) := by
  by_cases h : 0 ≤ k
  · have := a.mul k.toNat
    rwa [Int.toNat_of_nonneg h] at this
  · have := (a.mul (-k).toNat).neg hm
    rwa [Int.toNat_of_nonneg (by omega), Int.neg_mul, Int.neg_neg] at this
theorem Rst.gcd (hm : 0 < m) {x y : Int} (hx : 0 ≤ x) (hy : 0 ≤ y) (a : Rst L m x) (b : Rst L m y) : Rst L m (Int.gcd x y : Nat) := by
  obtain ⟨u, v, e⟩ := bez x.toNat y.toNat
  have e2 : Int.gcd x y = Nat.gcd x.toNat y.toNat := by
    unfold Int.gcd
    congr 1 <;> omega
  rw [e2, ← e, Int.toNat_of_nonneg hx, Int.toNat_of_nonneg hy]
  exact (a.zmul hm u).add (b.zmul hm v)
theorem rst_gcdL (hm : 0 < m) (hp : PosL L) : ∀ (n : Nat) (R : List Int), R.length = n → (∀ x ∈ R, x ∈ L) → Rst L m (gcdL R) := by
  intro n
  induction n with
  | zero => intro R h _; rw [List.eq_nil_of_length_eq_zero h]; exact ⟨0, .zero, rfl⟩
  | succ n ih =>
    intro R h hR
    have hne : R ≠ [] := fun e => by rw [e] at h; cases h
    have hlast : R.getLast hne ∈ L := hR _ (List.getLast_mem hne)
    rw [← List.dropLast_concat_getLast hne, gcdL_snoc]
    exact Rst.gcd hm (gcdL_nn _) (Int.le_of_lt (hp _ hlast)) (ih _ (by rw [List.length_dropLast, h]; rfl) fun x hx => hR x (List.dropLast_subset _ hx)) ⟨_, .of_mem hlast, rfl⟩
theorem all_rests (hm : 0 < m) (hp : PosL L) (h1 : gcdL L = 1) (r : Nat) (hr : r < m) : ∃ s, Gen L s ∧ s % m = r := by
  have h := rst_gcdL hm hp _ L rfl fun x hx => hx
  rw [h1] at h
  obtain ⟨s, hs, e⟩ := h.mul r
  refine ⟨s, hs, ?_⟩
  rw [e, Int.mul_one, Int.emod_eq_of_lt (by omega) (by omega)]
end
/-! ## the Apery row of a lot: integers alone -/
structure ApI (L : List Int) (m : Nat) (A : List Int) : Prop where
  len : A.length = m
  mem : ∀ r : Nat, r < m → Gen L (A.getD r 0) ∧ A.getD r 0 % m = r
  least : ∀ s : Int, Gen L s → A.getD (s % m).toNat 0 ≤ s
theorem ap_ints {L : List Int} {m : Nat} {f : List (Option Int)} (hm : 0 < m) (hp : PosL L) (h1 : gcdL L = 1) (a : Ap L m f) : ∃ A : List Int, f = A.map some ∧ ApI L m A := by
  have all : ∀ r, r < m → ∃ w, f[r]? = some (some w) := fun r hr => by
    obtain ⟨s, hs, e⟩ := all_rests hm hp h1 r hr
    obtain ⟨w, hw, _⟩ := a.least s hs
    rw [e, Int.toNat_natCast] at hw
    exact ⟨w, hw⟩
  have get : ∀ r w, f[r]? = some (some w) → (f.map fun o => o.getD 0)[r]? = some w := fun r w h => by
    rw [List.getElem?_map, h]
    rfl
  have getD : ∀ r w, f[r]? = some (some w) → (f.map fun o => o.getD 0).getD r 0 = w := fun r w h => by
    rw [List.getD_eq_getElem?_getD, get r w h]
    rfl
  refine ⟨f.map fun o => o.getD 0, ?_, by rw [List.length_map, a.len], fun r hr => ?_, fun s hs => ?_⟩
  · rw [List.map_map]
    refine List.ext_getElem? fun r => ?_
    by_cases hr : r < m
    · obtain ⟨w, hw⟩ := all r hr
      rw [List.getElem?_map, hw]
      rfl
    · rw [List.getElem?_eq_none (by rw [a.len]; omega), List.getElem?_eq_none (by rw [List.length_map, a.len]; omega)]
  · obtain ⟨w, hw⟩ := all r hr
    rw [getD r w hw]
    exact a.sound r w hw
  · obtain ⟨w, hw, lw⟩ := a.least s hs
    rw [getD _ w hw]
    exact lw
theorem rest_lt {m : Nat} (hm : 0 < m) (k : Int) : (k % m).toNat < m := by
  have := Int.emod_lt_of_pos k (show (0 : Int) < m by omega)
  have := Int.emod_nonneg k (show (m : Int) ≠ 0 by omega)
  omega
theorem rest_cast {m : Nat} (hm : 0 < m) (k : Int) : (((k % m).toNat : Nat) : Int) = k % m := Int.toNat_of_nonneg (Int.emod_nonneg _ (by omega))
section
variable {L : List Int} {m : Nat} {A : List Int}
theorem ApI.diff (a : ApI L m A) (hm : 0 < m) (k : Int) : ∃ j : Int, k - A.getD (k % m).toNat 0 = j * m := by
  have h := (a.mem _ (rest_lt hm k)).2
  rw [rest_cast hm] at h
  refine ⟨k / m - A.getD (k % m).toNat 0 / m, ?_⟩
  have h1 := Int.mul_ediv_add_emod k m
  have h2 := Int.mul_ediv_add_emod (A.getD (k % m).toNat 0) m
  rw [Int.sub_mul, Int.mul_comm (k / m), Int.mul_comm (A.getD (k % m).toNat 0 / m)]
  omega
theorem ApI.holds (a : ApI L m A) (hm : 0 < m) (hg : Gen L m) {k : Int} : Gen L k ↔ A.getD (k % m).toNat 0 ≤ k := by
  refine ⟨a.least k, fun h => ?_⟩
  obtain ⟨j, e⟩ := a.diff hm k
  have hj : 0 ≤ j := by
    rcases Int.lt_or_le j 0 with h2 | h2
    · have := Int.mul_neg_of_neg_of_pos h2 (show (0 : Int) < m by omega)
      omega
    · exact h2
  have e2 : k = A.getD (k % m).toNat 0 + (j.toNat : Int) * m := by rw [Int.toNat_of_nonneg hj]; omega
  have h3 := (a.mem _ (rest_lt hm k)).1.plus (hg.mul j.toNat)
  rw [← e2] at h3
  exact h3
/-- the greatest of a row -/
def maxLs : List Int → Int
  | [] => 0
  | x :: r => r.foldl max x
theorem foldl_max : ∀ (r : List Int) (x : Int), r.foldl max x ∈ x :: r ∧ ∀ y ∈ x :: r, y ≤ r.foldl max x
  | [], x => ⟨List.mem_cons_self, fun y hy => by rw [List.mem_singleton.mp hy]; exact Int.le_refl x⟩
  | z :: r, x => by
    obtain ⟨h1, h2⟩ := foldl_max r (max x z)
    rw [List.foldl_cons]
    refine ⟨?_, fun y hy => ?_⟩
    · rcases List.mem_cons.mp h1 with h | h
      · rw [h]
        by_cases hc : z ≤ x
        · rw [Int.max_eq_left hc]; exact List.mem_cons_self
        · rw [Int.max_eq_right (by omega)]; exact .tail _ List.mem_cons_self
      · exact .tail _ (.tail _ h)
    · have h3 := h2 (max x z) List.mem_cons_self
      rcases List.mem_cons.mp hy with rfl | hy
      · omega
      · rcases List.mem_cons.mp hy with rfl | hy
        · omega
        · exact h2 y (.tail _ hy)
theorem maxLs_facts {c : List Int} (h : c ≠ []) : maxLs c ∈ c ∧ ∀ y ∈ c, y ≤ maxLs c := by
  cases c with
  | nil => exact absurd rfl h
  | cons x r => exact foldl_max r x
def condA (m : Nat) (A : List Int) : Int := maxLs A - m + 1
theorem getD_mem {A : List Int} {r : Nat} (h : r < A.length) : A.getD r 0 ∈ A := by
  rw [List.getD_eq_getElem?_getD, List.getElem?_eq_getElem h]
  exact List.getElem_mem _
theorem mem_getD {A : List Int} {x : Int} (h : x ∈ A) : ∃ r, r < A.length ∧ A.getD r 0 = x := by
  obtain ⟨r, hr, e⟩ := List.getElem_of_mem h
  exact ⟨r, hr, by rw [List.getD_eq_getElem?_getD, List.getElem?_eq_getElem hr]; exact e⟩
theorem ApI.ne (a : ApI L m A) (hm : 0 < m) : A ≠ [] := fun e => by have := a.len; rw [e] at this; simp at this; omega
theorem ApI.cond_ge (a : ApI L m A) (hm : 0 < m) (hg : Gen L m) {k : Int} (h : condA m A ≤ k) : Gen L k := by
  rw [a.holds hm hg]
  obtain ⟨j, e⟩ := a.diff hm k
  have h1 := (maxLs_facts (a.ne hm)).2 _ (getD_mem (r := (k % m).toNat) (by rw [a.len]; exact rest_lt hm k))
  unfold condA at h
  have hj : 0 ≤ j := by
    rcases Int.lt_or_le j 0 with h2 | h2
    · have := Int.mul_le_mul_of_nonneg_right (show j ≤ -1 by omega) (show (0 : Int) ≤ m by omega)
      omega
    · exact h2
  have := Int.mul_nonneg hj (show (0 : Int) ≤ m by omega)
  omega
theorem ApI.cond_not (a : ApI L m A) (hm : 0 < m) : ¬ Gen L (condA m A - 1) := fun h => by
  obtain ⟨r, hr, e⟩ := mem_getD (maxLs_facts (a.ne hm)).1
  rw [a.len] at hr
  have h2 := a.least _ h
  have e2 : condA m A - 1 = maxLs A - m := by unfold condA; omega
  have e3 : (condA m A - 1) % m = r := by
    rw [e2, ← e, ← (a.mem r hr).2]
    rw [Int.sub_emod_right]
  rw [e3, Int.toNat_natCast, e] at h2
  omega
theorem ApI.nn (a : ApI L m A) (hp : PosL L) {r : Nat} (hr : r < m) : (r : Int) ≤ A.getD r 0 := by
  obtain ⟨h1, h2⟩ := a.mem r hr
  have h3 := h1.nn hp
  have h4 := Int.mul_ediv_add_emod (A.getD r 0) m
  have h5 := Int.mul_nonneg (show (0 : Int) ≤ m by omega) (Int.ediv_nonneg h3 (show (0 : Int) ≤ m by omega))
  omega
theorem ApI.cond_nn (a : ApI L m A) (hm : 0 < m) (hp : PosL L) : 0 ≤ condA m A := by
  have h1 := a.nn hp (r := m - 1) (by omega)
  have h2 := (maxLs_facts (a.ne hm)).2 _ (getD_mem (r := m - 1) (by rw [a.len]; omega))
  unfold condA
  omega
end

/-! ## ends, mirrors, gaps -/
def EndP (L : List Int) (k : Int) : Prop := ¬ Gen L k ∧ ∀ g ∈ L, Gen L (k + g)
/-- c: all from c on are sums, c - 1 is none -/
structure Cnd (L : List Int) (c : Int) : Prop where
  pos : PosL L
  nn : 0 ≤ c
  ge : ∀ k, c ≤ k → Gen L k
  no : ¬ Gen L (c - 1)
def Mir (L : List Int) (c : Int) : Prop := ∀ k, 0 ≤ k → k < c → (Gen L k ↔ ¬ Gen L (c - 1 - k))
section
variable {L : List Int} {c : Int}
theorem Cnd.lt (h : Cnd L c) {k : Int} (n : ¬ Gen L k) : k ≤ c - 1 := by
  rcases Int.lt_or_le (c - 1) k with h2 | h2
  · exact absurd (h.ge k (by omega)) n
  · exact h2
theorem Cnd.last (h : Cnd L c) : EndP L (c - 1) := ⟨h.no, fun g hg => h.ge _ (by have := h.pos g hg; omega)⟩
theorem Cnd.one (h : Cnd L c) (mi : Mir L c) {k : Int} (e : EndP L k) : k = c - 1 := by
  have h1 := h.lt e.1
  rcases Int.lt_or_le k (c - 1) with h2 | h2
  · exfalso
    have h3 : Gen L (c - 1 - k) := by
      rcases Int.lt_or_le k 0 with h3 | h3
      · exact h.ge _ (by omega)
      · exact Classical.byContradiction fun n => e.1 ((mi k h3 (by omega)).mpr n)
    rcases h3.pred with h4 | ⟨g, hg, h4⟩
    · omega
    · have h5 := (e.2 g hg).plus h4
      rw [show k + g + (c - 1 - k - g) = c - 1 by omega] at h5
      exact h.no h5
  · omega
theorem Cnd.above (h : Cnd L c) : ∀ (n : Nat) (k : Int), (c - 1 - k).toNat ≤ n → ¬ Gen L k → ∃ s, Gen L s ∧ EndP L (k + s)
  | n, k, hn, hk => by
    by_cases e : ∀ g ∈ L, Gen L (k + g)
    · exact ⟨0, .zero, by rw [Int.add_zero]; exact ⟨hk, e⟩⟩
    · obtain ⟨g, hg⟩ := Classical.not_forall.mp e
      obtain ⟨hg, h2⟩ := Classical.not_imp.mp hg
      have h3 := h.pos g hg
      have h4 := h.lt h2
      match n with
      | 0 => omega
      | n + 1 =>
        obtain ⟨s, hs, es⟩ := Cnd.above h n (k + g) (by omega) h2
        exact ⟨g + s, (Gen.of_mem hg).plus hs, by rw [← Int.add_assoc]; exact es⟩
theorem Cnd.mir (h : Cnd L c) (one : ∀ k, EndP L k → k = c - 1) : Mir L c := fun k h0 h1 => by
  constructor
  · intro a b
    have := a.plus b
    rw [show k + (c - 1 - k) = c - 1 by omega] at this
    exact h.no this
  · intro n
    obtain ⟨s, hs, e⟩ := h.above _ _ (Nat.le_refl _) n
    have := one _ e
    rw [show k = s by omega]
    exact hs
end
/-! ### counting -/
def bI (b : Bool) : Int := if b = true then 1 else 0
theorem sg_rev (n : Nat) (f : Nat → Int) : sg n (fun k => f (n - 1 - k)) = sg n f := by
  unfold sg
  have e : (List.range n).map (fun k => f (n - 1 - k)) = ((List.range n).map f).reverse := by
    refine List.ext_getElem (by simp) fun i h1 h2 => ?_
    simp only [List.length_map, List.length_range] at h1
    rw [List.getElem_map, List.getElem_reverse, List.getElem_map, List.getElem_range, List.getElem_range]
    congr 1
    simp
  rw [e, List.sum_reverse]
theorem sg_one_all (n : Nat) : sg n (fun _ => 1) = n := by
  induction n with
  | zero => rfl
  | succ n ih => rw [sg_succ, ih]; omega
theorem sg_le_one {n : Nat} {f : Nat → Int} (h : ∀ i, i < n → f i ≤ 1) : sg n f ≤ n := by
  induction n with
  | zero => exact Int.le_refl 0
  | succ n ih =>
    have := ih fun i hi => h i (by omega)
    have := h n (by omega)
    rw [sg_succ]
    omega
theorem sg_eq_one {n : Nat} {f : Nat → Int} (h : ∀ i, i < n → f i ≤ 1) : sg n f = n ↔ ∀ i, i < n → f i = 1 := by
  induction n with
  | zero => exact ⟨fun _ i hi => by omega, fun _ => rfl⟩
  | succ n ih =>
    have h1 := sg_le_one (n := n) (f := f) fun i hi => h i (by omega)
    have h2 := h n (by omega)
    have ih := ih fun i hi => h i (by omega)
    rw [sg_succ]
    constructor
    · intro e i hi
      by_cases hn : i = n
      · subst hn; omega
      · exact ih.mp (by omega) i (by omega)
    · intro e
      have := ih.mpr fun i hi => e i (by omega)
      have := e n (by omega)
      omega
theorem filter_count (n : Nat) (p : Nat → Bool) : (((List.range n).filter p).length : Int) = sg n (fun k => bI (p k)) := by
  induction n with
  | zero => rfl
  | succ n ih =>
    rw [List.range_succ, List.filter_append, List.length_append, sg_succ, Int.natCast_add, ih]
    congr 1
    unfold bI
    cases h : p n <;> simp [h]
/-- the number of the gaps below c -/
noncomputable def gapN (L : List Int) (n : Nat) : Int := sg n (fun k => bI (!genB L (k : Int)))
theorem gap_mir {L : List Int} {n : Nat} (h : Cnd L n) : 2 * gapN L n = n ↔ Mir L n := by
  have e1 : gapN L n = n - sg n (fun k => bI (genB L (k : Int))) := by
    unfold gapN
    have e : sg n (fun k => bI (!genB L (k : Int)) + bI (genB L (k : Int))) = n := by
      rw [sg_congr (g := fun _ => 1) fun k _ => by unfold bI; cases genB L (k : Int) <;> rfl, sg_one_all]
    rw [sg_add] at e
    omega
  have e2 : 2 * sg n (fun k => bI (genB L (k : Int))) = sg n (fun k => bI (genB L (k : Int)) + bI (genB L ((n - 1 - k : Nat) : Int))) := by
    rw [sg_add, sg_rev n fun k => bI (genB L (k : Int))]
    omega
  have le1 : ∀ k, k < n → bI (genB L (k : Int)) + bI (genB L ((n - 1 - k : Nat) : Int)) ≤ 1 := fun k hk => by
    cases a : genB L (k : Int) with
    | false => cases genB L ((n - 1 - k : Nat) : Int) <;> decide
    | true =>
      cases b : genB L ((n - 1 - k : Nat) : Int) with
      | false => decide
      | true =>
        have := (genB_iff.mp a).plus (genB_iff.mp b)
        rw [show (k : Int) + ((n - 1 - k : Nat) : Int) = n - 1 by omega] at this
        exact absurd this h.no
  have key := sg_eq_one le1
  have : 2 * gapN L n = n ↔ sg n (fun k => bI (genB L (k : Int)) + bI (genB L ((n - 1 - k : Nat) : Int))) = n := by
    rw [← e2, e1]
    omega
  rw [this, key]
  constructor
  · intro hk k h0 h1
    obtain ⟨j, rfl⟩ : ∃ j : Nat, k = j := ⟨k.toNat, (Int.toNat_of_nonneg h0).symm⟩
    have := hk j (by omega)
    rw [← genB_iff, ← genB_iff, show (n : Int) - 1 - j = ((n - 1 - j : Nat) : Int) by omega]
    revert this
    unfold bI
    cases genB L (j : Int) <;> cases genB L ((n - 1 - j : Nat) : Int) <;> simp
  · intro mi k hk
    have := mi k (by omega) (by omega)
    rw [← genB_iff, ← genB_iff, show (n : Int) - 1 - k = ((n - 1 - k : Nat) : Int) by omega] at this
    revert this
    unfold bI
    cases genB L (k : Int) <;> cases genB L ((n - 1 - k : Nat) : Int) <;> simp
/-! ### the number of gaps out of the Apery row -/
theorem sg_mono_zero {n k : Nat} {f : Nat → Int} (h : ∀ i, n ≤ i → f i = 0) : sg (n + k) f = sg n f := by
  induction k with
  | zero => rfl
  | succ k ih => rw [← Nat.add_assoc, sg_succ, ih, h _ (by omega)]; omega
theorem rest_count {m : Nat} (hm : 0 < m) {r : Nat} (hr : r < m) : ∀ (q N : Nat), r + q * m ≤ N + m - 1 → sg N (fun k => bI (decide (k % m = r) && decide (k < r + q * m))) = q
  | 0, N, _ => by
    rw [sg_congr (g := fun _ => 0) fun k _ => ?_, sg_nil]
    · rfl
    · have : ¬ (k % m = r ∧ k < r + 0 * m) := fun ⟨h1, h2⟩ => by
        have := Nat.mod_le k m
        omega
      unfold bI
      rw [if_neg]
      simp only [Bool.and_eq_true, decide_eq_true_eq]
      exact this
  | q + 1, N, hN => by
    rw [Nat.add_mul, Nat.one_mul] at hN
    have ih := rest_count hm hr q N (by omega)
    have := sg_upd (n := N) (r := r + q * m) (f := fun k => bI (decide (k % m = r) && decide (k < r + (q + 1) * m))) (g := fun k => bI (decide (k % m = r) && decide (k < r + q * m))) (d := 1) (by omega) (fun k _ hk => ?_) ?_
    · rw [this, ih]; omega
    · congr 1
      by_cases h1 : k % m = r
      · rw [decide_eq_true h1, Bool.true_and, Bool.true_and]
        refine decide_eq_decide.mpr ?_
        rw [Nat.add_mul, Nat.one_mul]
        constructor
        · intro h2
          have h3 := Nat.mod_add_div' k m
          have n1 : k / m ≠ q := fun e => hk (by rw [← h3, h1, e])
          have n2 : k / m < q + 1 := by
            refine Nat.lt_of_mul_lt_mul_right (a := m) ?_
            rw [Nat.add_mul, Nat.one_mul]
            omega
          have n3 : k / m < q := Nat.lt_of_le_of_ne (Nat.le_of_lt_succ n2) n1
          have h4 : (k / m + 1) * m ≤ q * m := Nat.mul_le_mul_right m n3
          rw [Nat.add_mul, Nat.one_mul] at h4
          omega
        · intro h2; omega
      · rw [decide_eq_false h1]
        rfl
    · unfold bI
      have h1 : (r + q * m) % m = r := by rw [Nat.add_mul_mod_self_right, Nat.mod_eq_of_lt hr]
      rw [decide_eq_true h1, decide_eq_true (show r + q * m < r + (q + 1) * m by rw [Nat.add_mul]; omega), decide_eq_false (show ¬ r + q * m < r + q * m by omega)]
      rfl
theorem gap_sum {L : List Int} {m : Nat} {A : List Int} (a : ApI L m A) (hm : 0 < m) (hg : Gen L m) (hp : PosL L) {N : Nat} (hN : condA m A ≤ N) : gapN L N = sg m (fun r => (A.getD r 0 - r) / m) := by
  have q : ∀ r, r < m → ∃ q : Nat, A.getD r 0 = r + q * m ∧ r + q * m ≤ N + m - 1 := fun r hr => by
    obtain ⟨h1, h2⟩ := a.mem r hr
    have h3 := a.nn hp hr
    have h4 := Int.mul_ediv_add_emod (A.getD r 0) m
    have h5 : 0 ≤ A.getD r 0 / m := Int.ediv_nonneg (by omega) (by omega)
    have h6 := (maxLs_facts (a.ne hm)).2 _ (getD_mem (r := r) (by rw [a.len]; exact hr))
    have e : A.getD r 0 = r + ((A.getD r 0 / m).toNat : Nat) * (m : Int) := by
      rw [Int.toNat_of_nonneg h5, Int.mul_comm]
      omega
    refine ⟨(A.getD r 0 / m).toNat, e, ?_⟩
    unfold condA at hN
    have : ((r + (A.getD r 0 / m).toNat * m : Nat) : Int) = A.getD r 0 := by rw [Int.natCast_add, Int.natCast_mul]; omega
    omega
  have e1 : ∀ k, k < N → bI (!genB L (k : Int)) = sg m (fun r => bI (decide (k % m = r) && decide ((k : Int) < A.getD r 0))) := fun k _ => by
    have hr : k % m < m := Nat.mod_lt _ hm
    rw [sg_congr (g := fun r => if r = k % m then bI (decide ((k : Int) < A.getD (k % m) 0)) else 0) fun r _ => ?_, sg_one hr]
    · congr 1
      have h := a.holds hm hg (k := k)
      rw [← Int.natCast_emod, Int.toNat_natCast] at h
      by_cases hk : Gen L k
      · rw [genB_iff.mpr hk, decide_eq_false (by have := h.mp hk; omega)]
        rfl
      · have : genB L (k : Int) = false := by
          cases e : genB L (k : Int) with
          | false => rfl
          | true => exact absurd (genB_iff.mp e) hk
        rw [this, decide_eq_true (by
          rcases Int.lt_or_le (k : Int) (A.getD (k % m) 0) with h2 | h2
          · exact h2
          · exact absurd (h.mpr h2) hk)]
        rfl
    · by_cases e : r = k % m
      · subst e
        rw [if_pos rfl, decide_eq_true rfl, Bool.true_and]
      · rw [if_neg e, decide_eq_false (Ne.symm e)]
        rfl
  unfold gapN
  rw [sg_congr e1, sg_comm]
  refine sg_congr fun r hr => ?_
  obtain ⟨qn, e, hq⟩ := q r hr
  rw [e, show ((r : Int) + qn * m - r) / m = qn by rw [show (r : Int) + qn * m - r = qn * m by omega]; exact Int.mul_ediv_cancel _ (by omega)]
  have := rest_count hm hr qn N hq
  refine Eq.trans ?_ this
  refine sg_congr fun k _ => ?_
  congr 2
  refine decide_eq_decide.mpr ?_
  have : ((r + qn * m : Nat) : Int) = (r : Int) + qn * m := by rw [Int.natCast_add, Int.natCast_mul]
  omega
theorem sum_getD : ∀ A : List Int, A.sum = sg A.length (fun r => A.getD r 0)
  | A => by
    unfold sg
    congr 1
    refine List.ext_getElem (by simp) fun i h1 h2 => ?_
    rw [List.getElem_map, List.getElem_range, List.getD_eq_getElem?_getD, List.getElem?_eq_getElem h1]
    rfl
theorem sg_id (n : Nat) : 2 * sg n (fun k => (k : Int)) = n * (n - 1) := by
  induction n with
  | zero => rfl
  | succ n ih =>
    rw [sg_succ, Int.mul_add, ih]
    have e : ((n + 1 : Nat) : Int) * (((n + 1 : Nat) : Int) - 1) = (n : Int) * (n - 1) + 2 * n := by
      rw [show ((n + 1 : Nat) : Int) - 1 = n by omega, show ((n + 1 : Nat) : Int) = (n : Int) + 1 by omega, Int.add_mul, Int.mul_sub]
      omega
    rw [e]
/-- genus_of_lot -/
theorem genus_eq {L : List Int} {m : Nat} {A : List Int} (a : ApI L m A) (hm : 0 < m) (hg : Gen L m) (hp : PosL L) {N : Nat} (hN : condA m A ≤ N) : (2 * A.sum - m * (m - 1)) / (2 * m) = gapN L N := by
  have e1 : A.sum = sg m (fun k => (k : Int)) + m * gapN L N := by
    rw [sum_getD, a.len, gap_sum a hm hg hp hN, ← sg_mul, ← sg_add]
    refine sg_congr fun r hr => ?_
    have h2 := (a.mem r hr).2
    have h4 := Int.mul_ediv_add_emod (A.getD r 0) m
    have h5 : (A.getD r 0 - r) / m = A.getD r 0 / m := by
      have : A.getD r 0 - r = (A.getD r 0 / m) * m := by rw [Int.mul_comm]; omega
      rw [this]
      exact Int.mul_ediv_cancel _ (by omega)
    rw [h5]
    omega
  have e2 := sg_id m
  have e3 : 2 * A.sum - m * (m - 1) = gapN L N * (2 * m) := by
    rw [e1, Int.mul_add, e2, ← Int.mul_assoc, Int.mul_comm (gapN L N)]
    omega
  rw [e3]
  exact Int.mul_ediv_cancel _ (by omega)
theorem ApI.cnd {L : List Int} {m : Nat} {A : List Int} (a : ApI L m A) (hm : 0 < m) (hg : Gen L m) (hp : PosL L) : Cnd L (condA m A) := ⟨hp, a.cond_nn hm hp, fun _ h => a.cond_ge hm hg h, a.cond_not hm⟩
/-! ### the ends out of the Apery row -/
theorem end_ap {L : List Int} {m : Nat} {A : List Int} (a : ApI L m A) (hm : 0 < m) (hml : (m : Int) ∈ L) (hp : PosL L) {k : Int} : EndP L k ↔ ∃ r, r < m ∧ k = A.getD r 0 - m ∧ ∀ o ∈ A, ¬ (A.getD r 0 < o ∧ Gen L (o - A.getD r 0)) := by
  have hg : Gen L m := .of_mem hml
  have least : ∀ o ∈ A, ¬ Gen L (o - m) := fun o ho h => by
    obtain ⟨r, hr, e⟩ := mem_getD ho
    rw [a.len] at hr
    have h2 := a.least _ h
    have e3 : (o - m) % (m : Int) = r := by rw [Int.sub_emod_right, ← e, (a.mem r hr).2]
    rw [e3, Int.toNat_natCast, e] at h2
    omega
  constructor
  · intro e
    have h1 := e.2 _ hml
    -- k + m is a least member
    have h2 : A.getD ((k + m) % m).toNat 0 = k + m := by
      have h3 := a.least _ h1
      obtain ⟨j, hj⟩ := a.diff hm (k + m)
      rcases Int.lt_or_le 0 j with h4 | h4
      · exfalso
        have h5 : Gen L k := by
          rw [a.holds hm hg]
          have : (k % (m : Int)) = (k + m) % m := by rw [Int.add_emod_right]
          rw [this]
          have := Int.mul_le_mul_of_nonneg_right (show 1 ≤ j by omega) (show (0 : Int) ≤ m by omega)
          omega
        exact e.1 h5
      · have := Int.mul_nonneg (show 0 ≤ -j by omega) (show (0 : Int) ≤ m by omega)
        rw [Int.neg_mul] at this
        omega
    refine ⟨((k + m) % m).toNat, rest_lt hm _, by rw [h2]; omega, fun o ho h3 => ?_⟩
    obtain ⟨h3, h4⟩ := h3
    rw [h2] at h3 h4
    rcases h4.pred with h5 | ⟨g, hg2, h5⟩
    · omega
    · have h6 := (e.2 g hg2).plus h5
      rw [show k + g + (o - (k + m) - g) = o - m by omega] at h6
      exact least o ho h6
  · rintro ⟨r, hr, rfl, h⟩
    have hw := getD_mem (A := A) (r := r) (by rw [a.len]; exact hr)
    refine ⟨least _ hw, fun g hg2 => ?_⟩
    refine Classical.byContradiction fun n => ?_
    -- then w + g is a least member
    have h1 : Gen L (A.getD r 0 + g) := .add hg2 (a.mem r hr).1
    have h2 : A.getD ((A.getD r 0 + g) % m).toNat 0 = A.getD r 0 + g := by
      have h3 := a.least _ h1
      obtain ⟨j, hj⟩ := a.diff hm (A.getD r 0 + g)
      rcases Int.lt_or_le 0 j with h4 | h4
      · exfalso
        refine n ?_
        rw [a.holds hm hg]
        have : ((A.getD r 0 - m + g) % (m : Int)) = (A.getD r 0 + g) % m := by rw [show A.getD r 0 - m + g = A.getD r 0 + g - m by omega, Int.sub_emod_right]
        rw [this]
        have := Int.mul_le_mul_of_nonneg_right (show 1 ≤ j by omega) (show (0 : Int) ≤ m by omega)
        omega
      · have := Int.mul_nonneg (show 0 ≤ -j by omega) (show (0 : Int) ≤ m by omega)
        rw [Int.neg_mul] at this
        omega
    have hmem := getD_mem (A := A) (r := ((A.getD r 0 + g) % m).toNat) (by rw [a.len]; exact rest_lt hm _)
    rw [h2] at hmem
    refine h _ hmem ⟨by have := hp g hg2; omega, ?_⟩
    rw [show A.getD r 0 + g - A.getD r 0 = g by omega]
    exact .of_mem hg2

theorem gcd_step {a b : Int} (ha : 0 ≤ a) (hb : 0 < b) : Int.gcd b (a % b) = Int.gcd a b := by
  obtain ⟨m, rfl⟩ := Int.eq_ofNat_of_zero_le ha
  obtain ⟨n, rfl⟩ := Int.eq_ofNat_of_zero_le (Int.le_of_lt hb)
  show Nat.gcd n (m % n) = Nat.gcd m n
  rw [Nat.gcd_comm n, ← Nat.gcd_rec, Nat.gcd_comm]
theorem gcd_ok {a b : Int} {M : Mem} (hb : b.natAbs < 2 ^ 199) : Fgreatest_common [.d (.int a), .d (.int b)] M = .ok (.d (.int (Int.gcd a b))) M := by
  unfold Fgreatest_common
  refine e_fn rfl ?_
  unfold Tgreatest_common
  repeat' (first | (wtm_at "mpA") | (wtm_at "mp1"))
  refine e_while (fun env M' => M' = M ∧ ∃ x y : Int, env = [some (.d (.int x)), some (.d (.int y))] ∧ 0 ≤ x ∧ 0 ≤ y ∧ Int.gcd x y = Int.gcd a b) (fun env M' => M' = M ∧ env = [some (.d (.int (Int.gcd a b))), some (.d (.int 0))])
    (fun env _ => intAt env 1) ⟨rfl, a.natAbs, b.natAbs, rfl, by omega, by omega, by simp [Int.gcd]⟩ (fun env M' h => ?_) (by show (b.natAbs : Int).natAbs < 2 ^ 200; omega) (fun env M' h => ?_)
  · obtain ⟨rfl, x, y, rfl, hx, hy, hg⟩ := h
    by_cases h0 : y = 0
    · subst h0
      refine .inl ⟨el_start ?_, rfl, ?_⟩
      · repeat' (first | (wtm_at "mpA") | (wtm_at "mp1"))
        rfl
      · rw [← hg, Int.gcd_zero_right]
        rw [show ((x.natAbs : Nat) : Int) = x by omega]
    · refine .inr ⟨el_start ?_, [some (.d (.int y)), some (.d (.int (x % y)))], M', el_start ?_, ⟨rfl, y, x % y, rfl, hy, Int.emod_nonneg x h0, by rw [gcd_step hx (by omega)]; exact hg⟩, ?_⟩
      · repeat' (first | (wtm_at "mpA") | (wtm_at "mp1"))
        simp [h0]
      · repeat' (first | (wtm_at "mpA") | (wtm_at "mp1"))
        rfl
      · show (x % y).natAbs < y.natAbs
        have h1 := Int.emod_nonneg x h0
        have h2 := Int.emod_lt_of_pos x (show 0 < y by omega)
        omega
  · obtain ⟨rfl, rfl⟩ := h
    repeat' (first | (wtm_at "mpA") | (wtm_at "mp1"))
/-! greatest common divisors of rows -/
def SmI (x : Int) : Prop := x.natAbs < 2 ^ 100
theorem gcd_sm {a x : Int} (ha : SmI a) : SmI (Int.gcd a x : Nat) ∨ a = 0 := by
  by_cases h : a = 0
  · exact .inr h
  · left
    have h1 : Int.gcd a x ≤ a.natAbs := Nat.le_of_dvd (by omega) (Nat.gcd_dvd_left _ _)
    unfold SmI at *
    omega
theorem comof_ok {x : D} {c : List Int} (hx : ∀ M, seqItm M (.d x) = some ⟨c.map .int, []⟩) (hs : ∀ y ∈ c, SmI y) {M : Mem} : Fcommon_of [.d x] M = .ok (.d (.int (gcdL c))) M := by
  unfold Fcommon_of
  refine e_fn rfl ?_
  unfold Tcommon_of
  repeat' (first | (wtm_at "mpA") | (with_reducible apply o_eq (hx _)) | (wtm_at "mp1"))
  refine e_fold (fun (s : Int) env M' => M' = M ∧ ∃ o, env = [some (.d x), some (.d (.int s)), o]) (fun s d => match d with | .int b => (Int.gcd s b : Nat) | _ => s) 0 ⟨rfl, _, rfl⟩ (fun d hd s env M' h => ?_) (fun env M' h => ?_)
  · obtain ⟨y, hy, rfl⟩ := List.mem_map.mp hd
    obtain ⟨rfl, o, rfl⟩ := h
    have hb : y.natAbs < 2 ^ 199 := Nat.lt_trans (hs y hy) (by decide)
    refine ⟨_, [some (.d x), some (.d (.int (Int.gcd s y : Nat))), some (.d (.int y))], M', rfl, el_start ?_, rfl, _, rfl⟩
    repeat' (first | (wtm_at "mpA") | (with_reducible apply e_call (gcd_ok hb)) | (wtm_at "mp1"))
    rfl
  · obtain ⟨rfl, o, rfl⟩ := h
    rw [foldl_map]
    repeat' (first | (wtm_at "mpA") | (wtm_at "mp1"))
def GcB : SS := (sSeq2 (sPar2 3 4 false false (sVar 1) (sArgs absOp (sCons (sVar 2) sNil)))
 (sSeq2 (sWhile (sB (sCmp .NotEq (sVar 4) (sCon (.int 0))))
 (sSeq2 (sPar2 3 4 false false (sVar 4) (sBin .Mod (sArgs intOp (sCons (sVar 3) sNil)) (sVar 4)))
 sSkip))
 (sSeq2 (sAsg 1 false (sVar 3))
 sSkip)))
theorem gcb_ok {o0 o3 o4 : Option AV} {s y : Int} {M : Mem} (hs : 0 ≤ s) (hb : y.natAbs < 2 ^ 199) : GcB [o0, some (.d (.int s)), some (.d (.int y)), o3, o4] M = .ok (.next [o0, some (.d (.int (Int.gcd s y : Nat))), some (.d (.int y)), some (.d (.int (Int.gcd s y : Nat))), some (.d (.int 0))]) M := by
  refine el_start ?_
  unfold GcB
  repeat' (first | (wtm_at "mpA") | (wtm_at "mp1"))
  refine e_while (fun env M' => M' = M ∧ ∃ a b : Int, env = [o0, some (.d (.int s)), some (.d (.int y)), some (.d (.int a)), some (.d (.int b))] ∧ 0 ≤ a ∧ 0 ≤ b ∧ Int.gcd a b = Int.gcd s y) (fun env M' => M' = M ∧ env = [o0, some (.d (.int s)), some (.d (.int y)), some (.d (.int (Int.gcd s y : Nat))), some (.d (.int 0))])
    (fun env _ => intAt env 4) ⟨rfl, s, y.natAbs, rfl, hs, by omega, by simp [Int.gcd]⟩ (fun env M' h => ?_) (by show (y.natAbs : Int).natAbs < 2 ^ 200; omega) (fun env M' h => ?_)
  · obtain ⟨rfl, a, b, rfl, ha, hb, hg⟩ := h
    by_cases h0 : b = 0
    · subst h0
      refine .inl ⟨el_start ?_, rfl, ?_⟩
      · repeat' (first | (wtm_at "mpA") | (wtm_at "mp1"))
        rfl
      · rw [← hg, Int.gcd_zero_right]
        rw [show ((a.natAbs : Nat) : Int) = a by omega]
    · refine .inr ⟨el_start ?_, [o0, some (.d (.int s)), some (.d (.int y)), some (.d (.int b)), some (.d (.int (a % b)))], M', el_start ?_, ⟨rfl, b, a % b, rfl, hb, Int.emod_nonneg a h0, by rw [gcd_step ha (by omega)]; exact hg⟩, ?_⟩
      · repeat' (first | (wtm_at "mpA") | (wtm_at "mp1"))
        simp [h0]
      · repeat' (first | (wtm_at "mpA") | (wtm_at "mp1"))
        rfl
      · show (a % b).natAbs < b.natAbs
        have h1 := Int.emod_nonneg a h0
        have h2 := Int.emod_lt_of_pos a (show 0 < b by omega)
        omega
  · obtain ⟨rfl, rfl⟩ := h
    repeat' (first | (wtm_at "mpA") | (wtm_at "mp1"))
    rfl
theorem lgcd_ok {x : D} {c : List Int} (hx : ∀ M, seqItm M (.d x) = some ⟨c.map .int, []⟩) (hs : ∀ y ∈ c, SmI y) {M : Mem} : F_law_gcd [.d x] M = .ok (.d (.int (gcdL c))) M := by
  unfold F_law_gcd
  refine e_fn rfl ?_
  unfold T_law_gcd
  repeat' (first | (wtm_at "mpA") | (with_reducible apply o_eq (hx _)) | (wtm_at "mp1"))
  refine e_fold (body := GcB) (fun (s : Int) env M' => 0 ≤ s ∧ M' = M ∧ ∃ o o3 o4, env = [some (.d x), some (.d (.int s)), o, o3, o4]) (fun s d => match d with | .int b => (Int.gcd s b : Nat) | _ => s) 0 ⟨Int.le_refl 0, rfl, _, _, _, rfl⟩ (fun d hd s env M' h => ?_) (fun env M' h => ?_)
  · obtain ⟨y, hy, rfl⟩ := List.mem_map.mp hd
    obtain ⟨h0, rfl, o, o3, o4, rfl⟩ := h
    have hb : y.natAbs < 2 ^ 199 := Nat.lt_trans (hs y hy) (by decide)
    exact ⟨_, _, _, rfl, gcb_ok h0 hb, by show (0 : Int) ≤ (Int.gcd s y : Nat); omega, rfl, _, _, _, rfl⟩
  · obtain ⟨h0, rfl, o, o3, o4, rfl⟩ := h
    rw [foldl_map]
    repeat' (first | (wtm_at "mpA") | (wtm_at "mp1"))
theorem it_ti (c : List Int) (M : Mem) : seqItm M (.d (ti c)) = some ⟨c.map .int, []⟩ := rfl
theorem it_li (c : List Int) (M : Mem) : seqItm M (.d (.lst (c.map .int))) = some ⟨c.map .int, []⟩ := rfl

/-! the sieve: which numbers are sums -/
noncomputable def heldL (F : List Int) (n : Nat) : List D := (List.range (n + 1)).map fun k : Nat => D.bl (genB F (k : Int))
/-- in the midst of a sweep by x: new up to j, old behind -/
noncomputable def heldM (F : List Int) (x : Int) (n j : Nat) : List D := (List.range (n + 1)).map fun k : Nat => D.bl (if k < j then genB (F ++ [x]) (k : Int) else genB F (k : Int))
theorem held_len (F : List Int) (n : Nat) : (heldL F n).length = n + 1 := by unfold heldL; rw [List.length_map, List.length_range]
theorem heldM_len (F : List Int) (x : Int) (n j : Nat) : (heldM F x n j).length = n + 1 := by unfold heldM; rw [List.length_map, List.length_range]
theorem held_get (F : List Int) {n k : Nat} (h : k ≤ n) : (heldL F n)[k]? = some (.bl (genB F (k : Int))) := by
  unfold heldL
  rw [List.getElem?_map, List.getElem?_eq_getElem (by rw [List.length_range]; omega), List.getElem_range]
  rfl
theorem heldM_get (F : List Int) (x : Int) {n j k : Nat} (h : k ≤ n) : (heldM F x n j)[k]? = some (.bl (if k < j then genB (F ++ [x]) (k : Int) else genB F (k : Int))) := by
  unfold heldM
  rw [List.getElem?_map, List.getElem?_eq_getElem (by rw [List.length_range]; omega), List.getElem_range]
  rfl
theorem gen_small {F : List Int} {x k : Int} (hp : PosL F) (hx : 0 < x) (h : k < x) : genB (F ++ [x]) k = genB F k := by
  rw [genB_snoc hp hx, genB_neg (hp.snoc hx) (show k - x < 0 by omega), Bool.or_false]
theorem heldM_start {F : List Int} {x n : Nat} (hp : PosL F) (hx : 0 < x) : heldM F (x : Int) n x = heldL F n := by
  unfold heldM heldL
  refine List.map_congr_left fun k _ => ?_
  by_cases h : k < x
  · rw [if_pos h, gen_small hp (by omega) (by omega)]
  · rw [if_neg h]
theorem heldM_end (F : List Int) (x : Int) (n : Nat) : heldM F x n (n + 1) = heldL (F ++ [x]) n := by
  unfold heldM heldL
  refine List.map_congr_left fun k hk => ?_
  rw [if_pos (List.mem_range.mp hk)]
theorem heldM_set {F : List Int} {x n j : Nat} (hp : PosL F) (hx : 0 < x) (hxj : x ≤ j) (hj : j ≤ n) : (heldM F (x : Int) n j).set j (.bl (genB F (j : Int) || genB (F ++ [(x : Int)]) ((j : Int) - x))) = heldM F (x : Int) n (j + 1) := by
  refine List.ext_getElem? fun k => ?_
  by_cases hk : k ≤ n
  · rw [heldM_get _ _ hk]
    by_cases e : j = k
    · subst e
      rw [List.getElem?_set_self (by rw [heldM_len]; omega), if_pos (by omega), ← genB_snoc hp (by omega)]
    · rw [List.getElem?_set_ne e, heldM_get _ _ hk]
      by_cases h : k < j
      · rw [if_pos h, if_pos (by omega)]
      · rw [if_neg h, if_neg (by omega)]
  · rw [List.getElem?_eq_none (by rw [List.length_set, heldM_len]; omega), List.getElem?_eq_none (by rw [heldM_len]; omega)]
theorem held_zero (n : Nat) : heldL [] n = .bl true :: List.replicate n (.bl false) := by
  unfold heldL
  rw [List.range_succ_eq_map, List.map_cons, List.map_map]
  congr 1
  · rw [show ((0 : Nat) : Int) = 0 from rfl, genB_zero]
  · refine List.eq_replicate_iff.mpr ⟨by rw [List.length_map, List.length_range], fun b hb => ?_⟩
    obtain ⟨k, _, rfl⟩ := List.mem_map.mp hb
    show D.bl (genB [] ((k + 1 : Nat) : Int)) = _
    have : genB [] ((k + 1 : Nat) : Int) = false := by
      cases h : genB [] ((k + 1 : Nat) : Int) with
      | false => rfl
      | true =>
        have := gen_nil.mp (genB_iff.mp h)
        omega
    rw [this]
def EvP (it : Option AV) (x : D) (M : Mem) (k : Option AV) : Env := [it, some (.cell M.length), some (.cell (M.length + 1)), some (.d x), k]
def EvL (it : Option AV) (x : D) (M : Mem) (k : Option AV) : Env := [it, some (.d x), some (.cell M.length), some (.cell (M.length + 1)), k]
/-! least_of -/
def LoI : SS := (sSeq2 (sSetI (sVar 2) (sVar 4) (sOr (sIdx (sVar 2) (sVar 4)) (sIdx (sVar 2) (sBin .Sub (sVar 4) (sVar 3)))))
 sSkip)
def LoB : SS := (sSeq2 (sIfS (sNotB (sB (sIdx (sVar 2) (sVar 3))))
 (sSeq2 (sExpr (sMeth mAppend (sVar 1) (sCons (sVar 3) sNil)))
 (sSeq2 (sFor (sRng (sCons (sVar 3) (sCons (sArgs lenOp (sCons (sVar 2) sNil)) sNil))) (.name 4)
 LoI)
 sSkip))
 sSkip)
 sSkip)
section
variable {it : Option AV} {k : Option AV} {M : Mem} {F : List Int} {FD : List D} {x n : Nat}
theorem LoI_ok {j : Nat} (hp : PosL F) (hx : 0 < x) (hxj : x ≤ j) (hj : j ≤ n) : LoI (EvP it (.int (x : Nat)) M (some (.d (.int (j : Nat))))) (M2 M FD (heldM F (x : Int) n j)) = .ok (.next (EvP it (.int (x : Nat)) M (some (.d (.int (j : Nat)))))) (M2 M FD (heldM F (x : Int) n (j + 1))) := by
  have i1 : idx (.cell (M.length + 1)) (.d (.int (j : Nat))) (M2 M FD (heldM F (x : Int) n j)) = .ok (.d (.bl (genB F (j : Int)))) (M2 M FD (heldM F (x : Int) n j)) := by
    refine idx_cell m2_1 (atI_nat ?_)
    rw [heldM_get _ _ hj, if_neg (by omega)]
  have i2 : idx (.cell (M.length + 1)) (.d (.int ((j : Int) - (x : Nat)))) (M2 M FD (heldM F (x : Int) n j)) = .ok (.d (.bl (genB (F ++ [(x : Int)]) ((j : Int) - x)))) (M2 M FD (heldM F (x : Int) n j)) := by
    rw [show (j : Int) - (x : Nat) = ((j - x : Nat) : Int) by omega]
    refine idx_cell m2_1 (atI_nat ?_)
    rw [heldM_get _ _ (by omega), if_pos (by omega)]
  have v : (sOr (sIdx (sVar 2) (sVar 4)) (sIdx (sVar 2) (sBin .Sub (sVar 4) (sVar 3)))) (EvP it (.int (x : Nat)) M (some (.d (.int (j : Nat))))) (M2 M FD (heldM F (x : Int) n j)) = .ok (.d (.bl (genB F (j : Int) || genB (F ++ [(x : Int)]) ((j : Int) - x)))) (M2 M FD (heldM F (x : Int) n j)) := by
    refine el_start ?_
    unfold EvP
    repeat' (first | (wtm_at "mpA") | (with_reducible apply p_idx i1) | (with_reducible apply p_idx i2) | (wtm_at "mp1"))
    cases genB F (j : Int) with
    | true => rfl
    | false =>
      repeat' (first | (wtm_at "mpA") | (with_reducible apply p_idx i2) | (wtm_at "mp1"))
      rfl
  have s := setI_eq (fo := sVar 2) (fi := sVar 4) (env := EvP it (.int (x : Nat)) M (some (.d (.int (j : Nat))))) (c := M.length + 1) (i := (j : Nat)) rfl rfl v m2_1 ⟨by omega, by rw [heldM_len]; omega⟩
  rw [Int.toNat_natCast, heldM_set hp hx hxj hj, m2_s1] at s
  refine el_start ?_
  unfold LoI
  refine e_stmt s ?_
  rfl
theorem LoB_ok (hp : PosL F) (hx : 0 < x) (hxn : x ≤ n) (hn : n ≤ 100000) (hF : F.length ≤ 100000) : ∃ k', LoB (EvP it (.int (x : Nat)) M k) (M2 M (F.map .int) (heldL F n)) = .ok (.next (EvP it (.int (x : Nat)) M k')) (M2 M ((leastF F (x : Int)).map .int) (heldL (leastF F (x : Int)) n)) := by
  have i1 : idx (.cell (M.length + 1)) (.d (.int (x : Nat))) (M2 M (F.map .int) (heldL F n)) = .ok (.d (.bl (genB F (x : Int)))) (M2 M (F.map .int) (heldL F n)) := idx_cell m2_1 (atI_nat (held_get F hxn))
  by_cases h : genB F (x : Int) = true
  · refine ⟨k, el_start ?_⟩
    unfold leastF
    rw [if_pos h]
    rw [h] at i1
    unfold LoB EvP
    repeat' (first | (wtm_at "mpA") | (with_reducible apply p_idx i1) | (wtm_at "mp1"))
    rfl
  · have h' : genB F (x : Int) = false := by simpa using h
    rw [h'] at i1
    have hl : (F.map D.int).length < 1000000 := by rw [List.length_map]; omega
    unfold leastF
    rw [if_neg h]
    have l1 : ∀ FD, lenOp [.cell (M.length + 1)] (M2 M FD (heldL F n)) = .ok (.d (.int ((n + 1 : Nat) : Int))) (M2 M FD (heldL F n)) := fun FD => by rw [m2_len1, held_len]
    obtain ⟨env', M', e, k', rfl, rfl⟩ : ∃ env' M', forL LoI (.name 4) [] (rngL (x : Int) (n + 1 - x)) (EvP it (.int (x : Nat)) M k) (M2 M ((F ++ [(x : Int)]).map .int) (heldL F n)) = .ok (.next env') M' ∧ ∃ k', env' = EvP it (.int (x : Nat)) M k' ∧ M' = M2 M ((F ++ [(x : Int)]).map .int) (heldL (F ++ [(x : Int)]) n) := by
      have hh := for_pre (φ := fun k : Nat => D.int ((x : Int) + (k : Nat))) (body := LoI) (tg := .name 4) (I := fun d env M' => ∃ k', env = EvP it (.int (x : Nat)) M k' ∧ M' = M2 M ((F ++ [(x : Int)]).map .int) (heldM F (x : Int) n (x + d.length))) (List.range (n + 1 - x)) [] (fun d a r e env M' hI => by
        obtain ⟨k', rfl, rfl⟩ := hI
        have hd : a = d.length ∧ d.length < n + 1 - x := rng_at (by rw [← e]; rfl)
        obtain ⟨rfl, hd⟩ := hd
        refine ⟨_, _, _, rfl, ?_, some (.d (.int ((x + d.length : Nat) : Int))), rfl, by rw [List.length_append, List.length_singleton, ← Nat.add_assoc]⟩
        rw [← Int.natCast_add]
        exact LoI_ok hp hx (by omega) (by omega)) (EvP it (.int (x : Nat)) M k) (M2 M ((F ++ [(x : Int)]).map .int) (heldL F n)) ⟨k, rfl, by rw [List.length_nil, Nat.add_zero, heldM_start hp hx]⟩
      obtain ⟨env', M', e, k', rfl, rfl⟩ := hh
      refine ⟨_, _, e, k', rfl, ?_⟩
      rw [List.nil_append, List.length_range, show x + (n + 1 - x) = n + 1 by omega, heldM_end]
    refine ⟨k', el_start ?_⟩
    have rg : ∀ {β : Type} {res : Out β} {q : Itm → Out β}, q ⟨rngL (x : Int) (n + 1 - x), []⟩ = res → optK (rngItm [.d (.int (x : Nat)), .d (.int ((n + 1 : Nat) : Int))]) q = res := fun {β res q} h => by
      refine o_rng2 (by omega) (by omega) ?_
      rw [show ((n + 1 : Nat) : Int) - (x : Nat) = ((n + 1 - x : Nat) : Int) by omega, Int.toNat_natCast]
      exact h
    rw [List.map_append] at e ⊢
    unfold LoB EvP
    unfold EvP at e
    repeat' (first | (wtm_at "mpA") | (with_reducible apply p_idx i1) | (with_reducible apply gk_t m2_gk0) | (with_reducible refine m2_app0 hl ?_) | (with_reducible apply e_call (l1 _)) | (with_reducible refine rg ?_) | (wtm_at "mp1"))
    refine e_is e ?_
    rfl
end
/-! _law_least -/
def LlI : SS := (sSeq2 (sSetI (sVar 3) (sVar 4) (sOr (sIdx (sVar 3) (sVar 4)) (sIdx (sVar 3) (sBin .Sub (sVar 4) (sVar 1)))))
 sSkip)
def LlB : SS := (sSeq2 (sIfS (sNotB (sB (sIdx (sVar 3) (sVar 1))))
 (sSeq2 (sExpr (sMeth mAppend (sVar 2) (sCons (sVar 1) sNil)))
 (sSeq2 (sFor (sRng (sCons (sVar 1) (sCons (sArgs lenOp (sCons (sVar 3) sNil)) sNil))) (.name 4)
 LlI)
 sSkip))
 sSkip)
 sSkip)
section
variable {it : Option AV} {k : Option AV} {M : Mem} {F : List Int} {FD : List D} {x n : Nat}
theorem LlI_ok {j : Nat} (hp : PosL F) (hx : 0 < x) (hxj : x ≤ j) (hj : j ≤ n) : LlI (EvL it (.int (x : Nat)) M (some (.d (.int (j : Nat))))) (M2 M FD (heldM F (x : Int) n j)) = .ok (.next (EvL it (.int (x : Nat)) M (some (.d (.int (j : Nat)))))) (M2 M FD (heldM F (x : Int) n (j + 1))) := by
  have i1 : idx (.cell (M.length + 1)) (.d (.int (j : Nat))) (M2 M FD (heldM F (x : Int) n j)) = .ok (.d (.bl (genB F (j : Int)))) (M2 M FD (heldM F (x : Int) n j)) := by
    refine idx_cell m2_1 (atI_nat ?_)
    rw [heldM_get _ _ hj, if_neg (by omega)]
  have i2 : idx (.cell (M.length + 1)) (.d (.int ((j : Int) - (x : Nat)))) (M2 M FD (heldM F (x : Int) n j)) = .ok (.d (.bl (genB (F ++ [(x : Int)]) ((j : Int) - x)))) (M2 M FD (heldM F (x : Int) n j)) := by
    rw [show (j : Int) - (x : Nat) = ((j - x : Nat) : Int) by omega]
    refine idx_cell m2_1 (atI_nat ?_)
    rw [heldM_get _ _ (by omega), if_pos (by omega)]
  have v : (sOr (sIdx (sVar 3) (sVar 4)) (sIdx (sVar 3) (sBin .Sub (sVar 4) (sVar 1)))) (EvL it (.int (x : Nat)) M (some (.d (.int (j : Nat))))) (M2 M FD (heldM F (x : Int) n j)) = .ok (.d (.bl (genB F (j : Int) || genB (F ++ [(x : Int)]) ((j : Int) - x)))) (M2 M FD (heldM F (x : Int) n j)) := by
    refine el_start ?_
    unfold EvL
    repeat' (first | (wtm_at "mpA") | (with_reducible apply p_idx i1) | (with_reducible apply p_idx i2) | (wtm_at "mp1"))
    cases genB F (j : Int) with
    | true => rfl
    | false =>
      repeat' (first | (wtm_at "mpA") | (with_reducible apply p_idx i2) | (wtm_at "mp1"))
      rfl
  have s := setI_eq (fo := sVar 3) (fi := sVar 4) (env := EvL it (.int (x : Nat)) M (some (.d (.int (j : Nat))))) (c := M.length + 1) (i := (j : Nat)) rfl rfl v m2_1 ⟨by omega, by rw [heldM_len]; omega⟩
  rw [Int.toNat_natCast, heldM_set hp hx hxj hj, m2_s1] at s
  refine el_start ?_
  unfold LlI
  refine e_stmt s ?_
  rfl
theorem LlB_ok (hp : PosL F) (hx : 0 < x) (hxn : x ≤ n) (hn : n ≤ 100000) (hF : F.length ≤ 100000) : ∃ k', LlB (EvL it (.int (x : Nat)) M k) (M2 M (F.map .int) (heldL F n)) = .ok (.next (EvL it (.int (x : Nat)) M k')) (M2 M ((leastF F (x : Int)).map .int) (heldL (leastF F (x : Int)) n)) := by
  have i1 : idx (.cell (M.length + 1)) (.d (.int (x : Nat))) (M2 M (F.map .int) (heldL F n)) = .ok (.d (.bl (genB F (x : Int)))) (M2 M (F.map .int) (heldL F n)) := idx_cell m2_1 (atI_nat (held_get F hxn))
  by_cases h : genB F (x : Int) = true
  · refine ⟨k, el_start ?_⟩
    unfold leastF
    rw [if_pos h]
    rw [h] at i1
    unfold LlB EvL
    repeat' (first | (wtm_at "mpA") | (with_reducible apply p_idx i1) | (wtm_at "mp1"))
    rfl
  · have h' : genB F (x : Int) = false := by simpa using h
    rw [h'] at i1
    have hl : (F.map D.int).length < 1000000 := by rw [List.length_map]; omega
    unfold leastF
    rw [if_neg h]
    have l1 : ∀ FD, lenOp [.cell (M.length + 1)] (M2 M FD (heldL F n)) = .ok (.d (.int ((n + 1 : Nat) : Int))) (M2 M FD (heldL F n)) := fun FD => by rw [m2_len1, held_len]
    obtain ⟨env', M', e, k', rfl, rfl⟩ : ∃ env' M', forL LlI (.name 4) [] (rngL (x : Int) (n + 1 - x)) (EvL it (.int (x : Nat)) M k) (M2 M ((F ++ [(x : Int)]).map .int) (heldL F n)) = .ok (.next env') M' ∧ ∃ k', env' = EvL it (.int (x : Nat)) M k' ∧ M' = M2 M ((F ++ [(x : Int)]).map .int) (heldL (F ++ [(x : Int)]) n) := by
      have hh := for_pre (φ := fun k : Nat => D.int ((x : Int) + (k : Nat))) (body := LlI) (tg := .name 4) (I := fun d env M' => ∃ k', env = EvL it (.int (x : Nat)) M k' ∧ M' = M2 M ((F ++ [(x : Int)]).map .int) (heldM F (x : Int) n (x + d.length))) (List.range (n + 1 - x)) [] (fun d a r e env M' hI => by
        obtain ⟨k', rfl, rfl⟩ := hI
        have hd : a = d.length ∧ d.length < n + 1 - x := rng_at (by rw [← e]; rfl)
        obtain ⟨rfl, hd⟩ := hd
        refine ⟨_, _, _, rfl, ?_, some (.d (.int ((x + d.length : Nat) : Int))), rfl, by rw [List.length_append, List.length_singleton, ← Nat.add_assoc]⟩
        rw [← Int.natCast_add]
        exact LlI_ok hp hx (by omega) (by omega)) (EvL it (.int (x : Nat)) M k) (M2 M ((F ++ [(x : Int)]).map .int) (heldL F n)) ⟨k, rfl, by rw [List.length_nil, Nat.add_zero, heldM_start hp hx]⟩
      obtain ⟨env', M', e, k', rfl, rfl⟩ := hh
      refine ⟨_, _, e, k', rfl, ?_⟩
      rw [List.nil_append, List.length_range, show x + (n + 1 - x) = n + 1 by omega, heldM_end]
    refine ⟨k', el_start ?_⟩
    have rg : ∀ {β : Type} {res : Out β} {q : Itm → Out β}, q ⟨rngL (x : Int) (n + 1 - x), []⟩ = res → optK (rngItm [.d (.int (x : Nat)), .d (.int ((n + 1 : Nat) : Int))]) q = res := fun {β res q} h => by
      refine o_rng2 (by omega) (by omega) ?_
      rw [show ((n + 1 : Nat) : Int) - (x : Nat) = ((n + 1 - x : Nat) : Int) by omega, Int.toNat_natCast]
      exact h
    rw [List.map_append] at e ⊢
    unfold LlB EvL
    unfold EvL at e
    repeat' (first | (wtm_at "mpA") | (with_reducible apply p_idx i1) | (with_reducible apply gk_t m2_gk0) | (with_reducible refine m2_app0 hl ?_) | (with_reducible apply e_call (l1 _)) | (with_reducible refine rg ?_) | (wtm_at "mp1"))
    refine e_is e ?_
    rfl
end


/-! least_of, _law_least -/
theorem erase_le : ∀ (n : Nat) (c : List Int), c.length ≤ n → c.eraseDups.length ≤ c.length
  | _, [], _ => Nat.le_refl _
  | 0, x :: r, h => by rw [List.length_cons] at h; omega
  | n + 1, x :: r, h => by
    rw [List.length_cons] at h
    have h1 := List.length_filter_le (fun b => !b == x) r
    have h2 := erase_le n (r.filter fun b => !b == x) (by omega)
    rw [List.eraseDups_cons, List.length_cons, List.length_cons]
    omega
theorem sortU_le (c : List Int) : (sortU c).length ≤ c.length := by
  unfold sortU
  rw [(sortI_perm _).length_eq]
  exact erase_le _ c (Nat.le_refl _)
def maxI : List Int → Int
  | [] => 0
  | x :: r => maxL x r
theorem maxI_ge {c : List Int} {x : Int} (h : x ∈ c) : x ≤ maxI c := by
  cases c with
  | nil => cases h
  | cons y r =>
    rcases List.mem_cons.mp h with rfl | h
    · exact (maxL_ge r x).1
    · exact (maxL_ge r y).2 x h
theorem maxI_mem {c : List Int} (h : c ≠ []) : maxI c ∈ c := by
  cases c with
  | nil => exact absurd rfl h
  | cons y r => exact maxL_mem r y
theorem max_lst {c : List Int} (h : c ≠ []) {M : Mem} : maxOp2 [.d (.lst (c.map .int))] M = .ok (.d (.int (maxI c))) M := by
  cases c with
  | nil => exact absurd rfl h
  | cons x r => exact max2_l
theorem max_ti {c : List Int} (h : c ≠ []) {M : Mem} : maxOp2 [.d (ti c)] M = .ok (.d (.int (maxI c))) M := by
  cases c with
  | nil => exact absurd rfl h
  | cons x r => exact max2_t
/-- a row of ints, as a list or a tuple -/
structure RowD (x : D) (c : List Int) : Prop where
  it : ∀ M, seqItm M (.d x) = some ⟨c.map .int, []⟩
  mx : c ≠ [] → ∀ M, maxOp2 [.d x] M = .ok (.d (.int (maxI c))) M
  ss : c.length < 64 → ∀ M, sortSetOp (.d x) M = .ok (.fr ((sortU c).map .int)) M
theorem row_ti (c : List Int) : RowD (ti c) c where
  it := it_ti c
  mx := fun h M => max_ti h
  ss := fun h M => by
    unfold sortSetOp
    have e : (tupOf (.d (ti c))).bind ints? = some c := ints_map c
    rw [e]
    dsimp only
    rw [if_pos h]
theorem row_li (c : List Int) : RowD (.lst (c.map .int)) c where
  it := it_li c
  mx := fun h M => max_lst h
  ss := fun h M => by
    unfold sortSetOp
    have e0 : (tupOf (.d (.lst (c.map .int)))).bind ints? = none := rfl
    have e : (lstOf M (.d (.lst (c.map .int)))).bind ints? = some c := ints_map c
    rw [e0, e]
    dsimp only
    rw [if_pos h]
theorem least_loop {body : SS} {tg : Tg} {EV : Option AV → Option AV → Mem → Option AV → Env} {c : List Int} {it : Option AV} {n : Nat} {M : Mem} (hp : PosL c) (hc : ∀ y ∈ c, y ≤ n)
    (tb : ∀ (d : D) o k, tg.bind d (EV it o M k) = some (EV it (some (.d d)) M k))
    (st : ∀ (F : List Int) (x : Nat) k, PosL F → F.length ≤ c.length → 0 < x → x ≤ n → ∃ k', body (EV it (some (.d (.int (x : Nat)))) M k) (M2 M (F.map .int) (heldL F n)) = .ok (.next (EV it (some (.d (.int (x : Nat)))) M k')) (M2 M ((leastF F (x : Int)).map .int) (heldL (leastF F (x : Int)) n))) {o k : Option AV} :
    ∃ env' M', forL body tg [] (c.map .int) (EV it o M k) (M2 M [] (heldL [] n)) = .ok (.next env') M' ∧ ∃ o' k', env' = EV it o' M k' ∧ M' = M2 M ((leastL c).map .int) (heldL (leastL c) n) := by
  obtain ⟨env', M', e, o', k', h1, h2⟩ := for_pre (φ := D.int) (body := body) (tg := tg) (I := fun d env M' => ∃ o k, env = EV it o M k ∧ M' = M2 M ((leastL d).map .int) (heldL (leastL d) n)) c [] (fun d a r e env M' h => by
    obtain ⟨o, k, rfl, rfl⟩ := h
    rw [List.nil_append] at e
    have ha : a ∈ c := by rw [e]; exact List.mem_append_right _ List.mem_cons_self
    have hd : (leastL d).Sublist d := (least_facts _ d rfl).1
    have hdc : d.Sublist c := by rw [e]; exact List.sublist_append_left _ _
    have h0 := hp a ha
    obtain ⟨x, rfl⟩ : ∃ x : Nat, a = x := ⟨a.toNat, (Int.toNat_of_nonneg (by omega)).symm⟩
    have := hc _ ha
    obtain ⟨k', e2⟩ := st (leastL d) x k (hp.sub (hd.trans hdc)) (hd.trans hdc).length_le (by omega) (by omega)
    exact ⟨_, _, _, tb _ _ _, e2, some (.d (.int (x : Nat))), k', rfl, by rw [leastL_snoc]⟩) (EV it o M k) (M2 M [] (heldL [] n)) ⟨o, k, rfl, rfl⟩
  exact ⟨env', M', e, o', k', h1, by rw [List.nil_append] at h2; exact h2⟩
section
variable {x : D} {c : List Int} {M : Mem} (hx : RowD x c) (hne : c ≠ []) (hl : c.length < 64) (hc : ∀ y ∈ c, 1 ≤ y ∧ y ≤ 100000)
include hx hne hl hc
theorem least_max : ∃ n : Nat, maxI c = n ∧ n ≤ 100000 ∧ (∀ y ∈ sortU c, y ≤ n) ∧ PosL (sortU c) := by
  have hm := hc _ (maxI_mem hne)
  refine ⟨(maxI c).toNat, (Int.toNat_of_nonneg (by omega)).symm, by omega, fun y hy => ?_, fun y hy => ?_⟩
  · have := maxI_ge (sortU_mem.mp hy)
    omega
  · have := hc y (sortU_mem.mp hy)
    omega
theorem least_ok : Fleast_of [.d x] M = .ok (.fr ((leastL (sortU c)).map .int)) M := by
  obtain ⟨n, e0, hn, h1, h2⟩ := least_max hx hne hl hc
  have mx : ∀ M, maxOp2 [.d x] M = .ok (.d (.int (n : Nat))) M := fun M => by rw [← e0]; exact hx.mx hne M
  have m1 : ∀ M, binop .Mult (opnd M (.fr [.bl false])) (opnd M (.d (.int (n : Nat)))) M = .ok (.fr (List.replicate n (.bl false))) M := fun M => by rw [mul_l1 (by omega) (by omega), Int.toNat_natCast]
  have a1 : ∀ M, binop .Add (opnd M (.fr [.bl true])) (opnd M (.fr (List.replicate n (.bl false)))) M = .ok (.fr (heldL [] n)) M := fun M => by
    rw [held_zero]
    exact add_ff (by rw [List.length_replicate]; show 1 + _ ≤ _; omega)
  have hlen : (sortU c).length ≤ 100000 := Nat.le_trans (sortU_le c) (by omega)
  obtain ⟨env', M', e, o', k', rfl, rfl⟩ := least_loop (body := LoB) (tg := .name 3) (EV := fun it o M k => [it, some (.cell M.length), some (.cell (M.length + 1)), o, k]) (c := sortU c) (it := some (.d x)) (n := n) (M := M) h2 h1 (fun _ _ _ => rfl)
    (fun F y k hF hFl h0 hy => LoB_ok hF h0 hy hn (by omega)) (o := none) (k := none)
  unfold Fleast_of
  refine e_fn rfl ?_
  unfold Tleast_of
  repeat' (first | (wtm_at "mpA") | (with_reducible apply e_call (mx _)) | (with_reducible apply p_bin (m1 _)) | (with_reducible apply p_bin (a1 _)) | (wtm_at "mp1"))
  rw [m2_new, show (M ++ [some (MC.l [])]).length = M.length + 1 by rw [List.length_append]; rfl]
  refine e_sortset (e_var rfl ?_)
  refine e_is (hx.ss hl _) ?_
  repeat' (first | (wtm_at "mpA") | (wtm_at "mp1"))
  refine e_is e ?_
  repeat' (first | (wtm_at "mpA") | (wtm_at "mp1"))
  show finRet _ (.cell M.length) _ = _
  unfold finRet
  dsimp only
  rw [if_neg (Nat.lt_irrefl _), m2_0]
  dsimp only
  rw [List.take_left]
theorem lleast_ok : F_law_least [.d x] M = .ok (.d (ti (leastL (sortU c)))) M := by
  obtain ⟨n, e0, hn, h1, h2⟩ := least_max hx hne hl hc
  have mx : ∀ M, maxOp2 [.d x] M = .ok (.d (.int (n : Nat))) M := fun M => by rw [← e0]; exact hx.mx hne M
  have m1 : ∀ M, binop .Mult (opnd M (.fr [.bl false])) (opnd M (.d (.int (n : Nat)))) M = .ok (.fr (List.replicate n (.bl false))) M := fun M => by rw [mul_l1 (by omega) (by omega), Int.toNat_natCast]
  have a1 : ∀ M, binop .Add (opnd M (.fr [.bl true])) (opnd M (.fr (List.replicate n (.bl false)))) M = .ok (.fr (heldL [] n)) M := fun M => by
    rw [held_zero]
    exact add_ff (by rw [List.length_replicate]; show 1 + _ ≤ _; omega)
  have hlen : (sortU c).length ≤ 100000 := Nat.le_trans (sortU_le c) (by omega)
  obtain ⟨env', M', e, o', k', rfl, rfl⟩ := least_loop (body := LlB) (tg := .name 1) (EV := fun it o M k => [it, o, some (.cell M.length), some (.cell (M.length + 1)), k]) (c := sortU c) (it := some (.d x)) (n := n) (M := M) h2 h1 (fun _ _ _ => rfl)
    (fun F y k hF hFl h0 hy => LlB_ok hF h0 hy hn (by omega)) (o := none) (k := none)
  have t1 : tupleOp [.cell M.length] (M2 M ((leastL (sortU c)).map .int) (heldL (leastL (sortU c)) n)) = .ok (.d (ti (leastL (sortU c)))) (M2 M ((leastL (sortU c)).map .int) (heldL (leastL (sortU c)) n)) := by
    unfold tupleOp
    simp [lstOf]
  unfold F_law_least
  refine e_fn rfl ?_
  unfold T_law_least
  repeat' (first | (wtm_at "mpA") | (with_reducible apply e_call (mx _)) | (with_reducible apply p_bin (m1 _)) | (with_reducible apply p_bin (a1 _)) | (wtm_at "mp1"))
  rw [m2_new, show (M ++ [some (MC.l [])]).length = M.length + 1 by rw [List.length_append]; rfl]
  refine e_sortset (e_var rfl ?_)
  refine e_is (hx.ss hl _) ?_
  repeat' (first | (wtm_at "mpA") | (wtm_at "mp1"))
  refine e_is e ?_
  repeat' (first | (wtm_at "mpA") | (with_reducible apply e_call t1) | (wtm_at "mp1"))
  exact r_dL
end

/-! what is a number, a weight, a row of weights -/
def isI : D → Bool
  | .int _ => true
  | _ => false
theorem isintD (d : D) (hf : ∀ x, d ≠ .fn x) {M : Mem} : Fis_integer [.d d] M = .ok (.d (.bl (isI d))) M := by
  unfold Fis_integer
  refine e_fn rfl ?_
  unfold Tis_integer
  cases d with
  | non => repeat' (first | (wtm_at "mpA") | (wtm_at "mp2"))
  | bl b => repeat' (first | (wtm_at "mpA") | (wtm_at "mp2"))
  | int i => repeat' (first | (wtm_at "mpA") | (wtm_at "mp2"))
  | str x => repeat' (first | (wtm_at "mpA") | (wtm_at "mp2"))
  | tup xs => repeat' (first | (wtm_at "mpA") | (wtm_at "mp2"))
  | lst xs => repeat' (first | (wtm_at "mpA") | (wtm_at "mp2"))
  | fn x => exact absurd rfl (hf x)
theorem isI_int {d : D} (h : isI d = true) : ∃ i, d = .int i := by
  cases d with
  | int i => exact ⟨i, rfl⟩
  | _ => cases h
/-! is_lot -/
def gB : D → Bool
  | .int m => decide (1 ≤ m) && decide (m ≤ 1000)
  | _ => false
theorem areg_ok {ds : List D} {most : Int} (hd : ds.length ≤ 1000) (hf : ∀ d ∈ ds, ∀ x, d ≠ .fn x) {M : Mem} : Fare_generators [.d (.tup ds), .d (.int most)] M = .ok (.d (.bl ((decide (1 ≤ (ds.length : Int)) && decide ((ds.length : Int) ≤ most)) && ds.all gB))) M := by
  unfold Fare_generators
  refine e_fn rfl ?_
  unfold Tare_generators
  by_cases h1 : 1 ≤ (ds.length : Int)
  · by_cases h2 : (ds.length : Int) ≤ most
    · rw [decide_eq_true h1, decide_eq_true h2, Bool.true_and, Bool.true_and]
      repeat' (first | (wtm_at "mpA") | (wtm_at "mp1"))
      refine e_compE (fun d => .bl (gB d)) (fun _ => true) (fun d hd => ?_) (show ds.length ≤ 1000000 by omega) ?_
      · refine ⟨_, rfl, rfl, fun _ => ⟨.d (.bl (gB d)), el_start ?_, rfl⟩⟩
        by_cases hi : isI d = true
        · obtain ⟨m, rfl⟩ := isI_int hi
          show _ = Out.ok (AV.d (.bl (decide (1 ≤ m) && decide (m ≤ 1000)))) _
          repeat' (first | (wtm_at "mpA") | (with_reducible refine e_call isint ?_) | (wtm_at "mp1"))
          by_cases h1 : 1 ≤ m
          · rw [decide_eq_true h1, Bool.true_and]
            repeat' (first | (wtm_at "mpA") | (wtm_at "mp1"))
            rfl
          · rw [decide_eq_false h1, Bool.false_and]
            rfl
        · have hi : isI d = false := by simpa using hi
          have hg : gB d = false := by
            cases d with
            | int i => cases hi
            | _ => rfl
          rw [hg]
          have e : ∀ M, Fis_integer [.d d] M = .ok (.d (.bl false)) M := fun M => by rw [isintD d (hf d hd), hi]
          repeat' (first | (wtm_at "mpA") | (with_reducible apply e_call (e _)) | (wtm_at "mp1"))
          rfl
      · have e : ((ds.filter fun _ => true).map fun d => D.bl (gB d)) = (ds.map gB).map D.bl := by
          rw [List.filter_eq_self.mpr (fun _ _ => rfl), List.map_map]
          rfl
        have e2 : (ds.map gB).all id = ds.all gB := by rw [List.all_map]; rfl
        dsimp only
        rw [e, ← e2]
        repeat' (first | (wtm_at "mpA") | (with_reducible apply e_call all_bls) | (wtm_at "mp1"))
    · rw [decide_eq_true h1, decide_eq_false h2, Bool.true_and, Bool.false_and]
      repeat' (first | (wtm_at "mpA") | (wtm_at "mp1"))
  · rw [decide_eq_false h1, Bool.false_and, Bool.false_and]
    repeat' (first | (wtm_at "mpA") | (wtm_at "mp1"))
theorem areg_no {d : D} {most : Int} (hf : ∀ x, d ≠ .fn x) (ht : ∀ xs, d ≠ .tup xs) {M : Mem} : Fare_generators [.d d, .d (.int most)] M = .ok (.d (.bl false)) M := by
  unfold Fare_generators
  refine e_fn rfl ?_
  unfold Tare_generators
  cases d with
  | non => repeat' (first | (wtm_at "mpA") | (wtm_at "mp2"))
  | bl b => repeat' (first | (wtm_at "mpA") | (wtm_at "mp2"))
  | int i => repeat' (first | (wtm_at "mpA") | (wtm_at "mp2"))
  | str x => repeat' (first | (wtm_at "mpA") | (wtm_at "mp2"))
  | tup xs => exact absurd rfl (ht xs)
  | lst xs => repeat' (first | (wtm_at "mpA") | (wtm_at "mp2"))
  | fn x => exact absurd rfl (hf x)
theorem islot_bad {d : D} (h : ∀ M, Fare_generators [.d d, .d (.int 12)] M = .ok (.d (.bl false)) M) {M : Mem} : Fis_lot [.d d] M = .ok (.d (.bl false)) M := by
  unfold Fis_lot
  refine e_fn rfl ?_
  unfold Tis_lot
  repeat' (first | (wtm_at "mpA") | (with_reducible apply e_call (h _)) | (wtm_at "mp1"))
/-! what is a lot, worked out -/
def genC (L : List Int) : Nat → Int → Bool
  | 0, k => decide (k = 0)
  | n + 1, k => decide (k = 0) || L.any fun g => decide (g ≤ k) && genC L n (k - g)
theorem genC_eq {L : List Int} (hp : PosL L) : ∀ (n : Nat) (k : Int), 0 ≤ k → k ≤ n → genC L n k = genB L k
  | 0, k, h0, h1 => by
    have : k = 0 := by omega
    subst this
    rw [genB_zero]
    rfl
  | n + 1, k, h0, h1 => by
    by_cases hk : k = 0
    · subst hk
      rw [genB_zero]
      rfl
    · rw [genB_rec hp (by omega)]
      show (decide (k = 0) || L.any fun g => decide (g ≤ k) && genC L n (k - g)) = _
      rw [decide_eq_false hk, Bool.false_or]
      refine any_congr fun g hg => ?_
      have := hp g hg
      by_cases h : g ≤ k
      · rw [genC_eq hp n (k - g) (by omega) (by omega)]
      · rw [decide_eq_false h, Bool.false_and, Bool.false_and]
def leastC (xs : List Int) : List Int := xs.foldl (fun F x => if genC F x.toNat x = true then F else F ++ [x]) []
theorem leastC_snoc (xs : List Int) (x : Int) : leastC (xs ++ [x]) = if genC (leastC xs) x.toNat x = true then leastC xs else leastC xs ++ [x] := by
  unfold leastC
  rw [List.foldl_append]
  rfl
theorem leastC_eq : ∀ (n : Nat) (xs : List Int), xs.length = n → PosL xs → leastC xs = leastL xs := by
  intro n
  induction n with
  | zero => intro xs h _; rw [List.eq_nil_of_length_eq_zero h]; rfl
  | succ n ih =>
    intro xs h hp
    have hne : xs ≠ [] := fun e => by rw [e] at h; cases h
    have e := List.dropLast_concat_getLast hne
    have hp1 : PosL xs.dropLast := hp.sub (List.dropLast_sublist _)
    have h1 := ih xs.dropLast (by rw [List.length_dropLast, h]; rfl) hp1
    have h0 := hp _ (List.getLast_mem hne)
    rw [← e, leastL_snoc, leastC_snoc, h1]
    unfold leastF
    rw [genC_eq (hp1.sub (least_facts _ _ rfl).1) _ _ (by omega) (by omega)]
def lotC (c : List Int) : Bool := ((decide (1 ≤ (c.length : Int)) && decide ((c.length : Int) ≤ 12)) && (c.map D.int).all gB) && (((List.zip c c.tail).all fun p => decide (p.1 < p.2)) && (decide (gcdL c = 1) && decide (leastC c = c)))
theorem gB_all {c : List Int} (h : (c.map D.int).all gB = true) : ∀ y ∈ c, 1 ≤ y ∧ y ≤ 1000 := fun y hy => by
  have := List.all_eq_true.mp h (.int y) (List.mem_map.mpr ⟨y, hy, rfl⟩)
  have : (decide (1 ≤ y) && decide (y ≤ 1000)) = true := this
  simpa using this
theorem sortU_asc {c : List Int} (h : c.Pairwise (· < ·)) : sortU c = c := sorted_lt_ext _ _ (sortU_lt c) h fun k => sortU_mem
theorem lotC_facts {c : List Int} (h : lotC c = true) : c ≠ [] ∧ c.length ≤ 12 ∧ (∀ y ∈ c, 1 ≤ y ∧ y ≤ 1000) ∧ c.Pairwise (· < ·) ∧ gcdL c = 1 ∧ leastL c = c := by
  unfold lotC at h
  simp only [Bool.and_eq_true, decide_eq_true_eq] at h
  obtain ⟨⟨⟨h1, h2⟩, h3⟩, h4, h5, h6⟩ := h
  have h3 := gB_all h3
  have h4 := (asc_zip c).mp (by simpa using h4)
  refine ⟨fun e => by rw [e] at h1; simp at h1, by omega, h3, h4, h5, ?_⟩
  rw [← leastC_eq _ c rfl fun y hy => by have := h3 y hy; omega]
  exact h6
theorem lotC_of {c : List Int} (h0 : c ≠ []) (h1 : c.length ≤ 12) (h2 : ∀ y ∈ c, 1 ≤ y ∧ y ≤ 1000) (h3 : c.Pairwise (· < ·)) (h4 : gcdL c = 1) (h5 : leastL c = c) : lotC c = true := by
  unfold lotC
  simp only [Bool.and_eq_true, decide_eq_true_eq]
  refine ⟨⟨⟨?_, by omega⟩, ?_⟩, ?_, h4, ?_⟩
  · cases c with
    | nil => exact absurd rfl h0
    | cons x r => rw [List.length_cons]; omega
  · refine List.all_eq_true.mpr fun d hd => ?_
    obtain ⟨y, hy, rfl⟩ := List.mem_map.mp hd
    have := h2 y hy
    show (decide (1 ≤ y) && decide (y ≤ 1000)) = true
    simpa using this
  · simpa using (asc_zip c).mpr h3
  · rw [leastC_eq _ c rfl fun y hy => by have := h2 y hy; omega]
    exact h5
theorem ok_li (c : List Int) : (D.lst (c.map .int)).ok = true := by
  have h := ok_ti c
  have h2 : (D.lst (c.map .int)).ok = (D.tup (c.map .int)).ok := by first | rfl | (unfold D.ok SeqAt.shaped; rfl)
  rw [h2]
  exact h
theorem eq_frs (a b : List Int) (M : Mem) : cmpop .Eq (.fr (a.map .int)) (.fr (b.map .int)) M = .ok (.d (.bl (decide (a = b)))) M := by
  have e : cmpv .Eq M (.fr (a.map .int)) (.fr (b.map .int)) = some (D.eqv (.lst (a.map .int)) (.lst (b.map .int))) := by
    show (if ((D.lst (a.map .int)).ok && (D.lst (b.map .int)).ok) = true then _ else _) = _
    rw [ok_li, ok_li]
    rfl
  have e2 : D.eqv (.lst (a.map .int)) (.lst (b.map .int)) = decide (a = b) := eqvAll_ti a b
  unfold cmpop
  rw [e, e2]
theorem zip_map {β : Type} {kx : Exc → Mem → Out β} {res : Out β} {k : AV → Mem → Out β} {xs ys : List Int} {f : SE} {tg : Tg} {vs : List Nat} {env : Env} {M : Mem} (p : Int × Int → Bool)
    (h : ∀ a b : Int, ∃ e, tg.bind (.tup [.int a, .int b]) (wipeE env vs) = some e ∧ f e M = .ok (.d (.bl (p (a, b)))) M) (hl : xs.length ≤ 100000)
    (q : k (.fr (((List.zip xs ys).map p).map .bl)) M = res) : el (compL f sYes tg vs [] env (zipL (xs.map .int) (ys.map .int)) [] M) k kx = res := by
  rw [zipL_int2]
  refine e_compA (φ := fun p : Int × Int => D.tup [.int p.1, .int p.2]) (List.zip xs ys) (fun z => .bl (p z)) (fun z _ => ?_) (by rw [List.length_zip]; omega) (by rw [List.map_map] at q; exact q)
  obtain ⟨e, e1, e2⟩ := h z.1 z.2
  exact ⟨e, e1, _, e2, rfl⟩
theorem islot_ok {c : List Int} (hl : c.length ≤ 900) {M : Mem} : Fis_lot [.d (ti c)] M = .ok (.d (.bl (lotC c))) M := by
  have ag : ∀ M, Fare_generators [.d (ti c), .d (.int 12)] M = .ok (.d (.bl ((decide (1 ≤ (c.length : Int)) && decide ((c.length : Int) ≤ 12)) && (c.map D.int).all gB))) M := fun M => by
    have h := areg_ok (ds := c.map .int) (most := 12) (by rw [List.length_map]; omega) (fun d hd x h => by obtain ⟨i, _, rfl⟩ := List.mem_map.mp hd; cases h) (M := M)
    rw [List.length_map] at h
    exact h
  unfold lotC
  cases hA : ((decide (1 ≤ (c.length : Int)) && decide ((c.length : Int) ≤ 12)) && (c.map D.int).all gB) with
  | false =>
    rw [Bool.false_and]
    exact islot_bad fun M => by rw [ag, hA]
  | true =>
    rw [hA] at ag
    rw [Bool.true_and]
    simp only [Bool.and_eq_true, decide_eq_true_eq] at hA
    have hs := gB_all hA.2
    match c with
    | [] => simp at hA
    | x :: r =>
      have e4 : ((List.zip (x :: r) r).map fun p => decide (p.1 < p.2)).all id = ((List.zip (x :: r) (x :: r).tail).all fun p => decide (p.1 < p.2)) := by rw [List.all_map]; rfl
      have cm : ∀ M, Fcommon_of [.d (ti (x :: r))] M = .ok (.d (.int (gcdL (x :: r)))) M := fun M => comof_ok (row_ti _).it (fun y hy => by
        have := hs y hy
        unfold SmI
        omega)
      unfold Fis_lot
      refine e_fn rfl ?_
      unfold Tis_lot
      repeat' (first | (wtm_at "mpA") | (with_reducible apply e_call (ag _)) | (with_reducible refine cut_tail ?_) | (wtm_at "mp1"))
      refine zip_map (fun p => decide (p.1 < p.2)) (fun a b => ⟨_, rfl, ?_⟩) (by omega) ?_
      · refine el_start ?_
        repeat' (first | (wtm_at "mpA") | (wtm_at "mp1"))
        rfl
      repeat' (first | (wtm_at "mpA") | (with_reducible apply e_call all_bls) | (wtm_at "mp1"))
      rw [e4]
      cases hZ : ((List.zip (x :: r) (x :: r).tail).all fun p => decide (p.1 < p.2)) with
      | false => repeat' (first | (wtm_at "mpA") | (wtm_at "mp1"))
      | true =>
        have asc := (asc_zip (x :: r)).mp hZ
        have lo : ∀ M, Fleast_of [.d (ti (x :: r))] M = .ok (.fr ((leastC (x :: r)).map .int)) M := fun M => by
          rw [least_ok (row_ti _) (by simp) (by omega) (fun y hy => by have := hs y hy; omega), sortU_asc asc, leastC_eq _ _ rfl fun y hy => by have := hs y hy; omega]
        repeat' (first | (wtm_at "mpA") | (with_reducible apply e_call (cm _)) | (wtm_at "mp1"))
        by_cases hg : gcdL (x :: r) = 1
        · rw [decide_eq_true hg, Bool.true_and, Bool.true_and]
          repeat' (first | (wtm_at "mpA") | (with_reducible apply e_call (lo _)) | (with_reducible apply e_call lst_tup) | (with_reducible apply p_cmpE (eq_frs _ _ _)) | (wtm_at "mp1"))
        · rw [decide_eq_false hg, Bool.true_and, Bool.false_and]
          repeat' (first | (wtm_at "mpA") | (wtm_at "mp1"))

/-! apery_of: the program's way -/
def oD : Option Int → D
  | none => .non
  | some w => .int w
abbrev Cf (M : Mem) (f : List (Option Int)) : Mem := M ++ [some (.l (f.map oD))]
theorem cf_idx {M : Mem} {f : List (Option Int)} {r : Nat} {o : Option Int} (h : f[r]? = some o) : idx (.cell M.length) (.d (.int (r : Nat))) (Cf M f) = .ok (.d (oD o)) (Cf M f) := idx_cell last_get (atI_nat (by rw [List.getElem?_map, h]; rfl))
theorem cf_set {f : List (Option Int)} {r : Nat} {v : Int} : (f.map oD).set r (.int v) = (f.set r (some v)).map oD := by rw [List.map_set]; rfl
abbrev AE (M : Mem) (lot : List Int) (m g : Int) (o4 o5 o6 o7 o8 o9 o10 o11 : Option AV) : Env := [some (.d (ti lot)), some (.d (.int m)), some (.cell M.length), some (.d (.int g)), o4, o5, o6, o7, o8, o9, o10, o11]
def AwB : SS := (sSeq2 (sAsg 9 false (sIf (sB (sCmp .Is (sIdx (sVar 2) (sVar 10)) (sCon .non))) (sVar 9) (sArgs minOp2 (sCons (sVar 9) (sCons (sIdx (sVar 2) (sVar 10)) sNil)))))
 (sSeq2 (sSetI (sVar 2) (sVar 10) (sVar 9))
 (sSeq2 (sAug 9 .Add (sVar 3))
 sSkip)))
theorem awb_ok {M : Mem} {lot : List Int} {m g now : Int} {f : List (Option Int)} {r : Nat} {o4 o5 o6 o7 o8 o11 : Option AV} (hr : r < f.length) :
    AwB (AE M lot m g o4 o5 o6 o7 o8 (some (.d (.int now))) (some (.d (.int (r : Nat)))) o11) (Cf M f) = .ok (.next (AE M lot m g o4 o5 o6 o7 o8 (some (.d (.int (walkF g (f, now) r).2))) (some (.d (.int (r : Nat)))) o11)) (Cf M (walkF g (f, now) r).1) := by
  have hl : (f.map oD).length = f.length := List.length_map ..
  have hv : (sAsg 9 false (sIf (sB (sCmp .Is (sIdx (sVar 2) (sVar 10)) (sCon .non))) (sVar 9) (sArgs minOp2 (sCons (sVar 9) (sCons (sIdx (sVar 2) (sVar 10)) sNil))))) (AE M lot m g o4 o5 o6 o7 o8 (some (.d (.int now))) (some (.d (.int (r : Nat)))) o11) (Cf M f) = .ok (.next (AE M lot m g o4 o5 o6 o7 o8 (some (.d (.int (nowF f now r)))) (some (.d (.int (r : Nat)))) o11)) (Cf M f) := by
    refine el_start ?_
    cases h : f[r]? with
    | none => rw [List.getElem?_eq_getElem hr] at h; cases h
    | some o =>
      have i1 := cf_idx (M := M) h
      cases o with
      | none =>
        rw [show nowF f now r = now by unfold nowF; rw [h]]
        repeat' (first | (wtm_at "mpA") | (with_reducible apply p_idx i1) | (wtm_at "mp1"))
        rfl
      | some a =>
        rw [show nowF f now r = min now a by unfold nowF; rw [h]]
        repeat' (first | (wtm_at "mpA") | (with_reducible apply p_idx i1) | (wtm_at "mp1"))
        rfl
  have s := setI_eq (fo := sVar 2) (fi := sVar 10) (fv := sVar 9) (env := AE M lot m g o4 o5 o6 o7 o8 (some (.d (.int (nowF f now r)))) (some (.d (.int (r : Nat)))) o11) (M := Cf M f) (c := M.length) (i := (r : Nat)) (z := .int (nowF f now r)) rfl rfl rfl last_get ⟨by omega, by rw [hl]; omega⟩
  rw [Int.toNat_natCast, cf_set, last_set] at s
  refine el_start ?_
  unfold AwB
  refine e_stmt hv (e_stmt s ?_)
  repeat' (first | (wtm_at "mpA") | (wtm_at "mp1"))
  rfl
theorem index_eq {fo fe : SE} {env : Env} {M : Mem} {o : AV} {ns : List Int} {k : Int} (h1 : fo env M = .ok o M) (h2 : fe env M = .ok (.d (.int k)) M) (h3 : lstOf M o = some (ns.map .int)) (h4 : k ∈ ns) : sIndex fo fe env M = .ok (.d (.int (ns.idxOf k : Nat))) M := by
  unfold sIndex
  rw [h1, Out.bind_ok, h3]
  dsimp only
  rw [h2, Out.bind_ok, h3]
  show (match (some (ns.map D.int)).bind ints?, AV.d (.int k) with
    | some ns, .d (.int k) => if ns.idxOf k < ns.length then Out.ok (AV.d (.int (ns.idxOf k : Nat))) M else .bad
    | _, _ => .bad) = _
  rw [Option.bind_some, ints_map]
  dsimp only
  rw [if_pos (List.idxOf_lt_length_iff.mpr h4)]
def circI (m : Nat) (g : Int) (σ : Nat) : List Int := (List.range (m / Int.gcd g m)).map fun k : Nat => ((σ : Int) + (k : Int) * g) % m
theorem circI_eq {m : Nat} (hm : 0 < m) (g : Int) (σ : Nat) : circI m g σ = (circL m g σ).map fun n : Nat => (n : Int) := by
  unfold circI circL
  rw [List.map_map]
  refine List.map_congr_left fun k _ => ?_
  exact (rotN_cast hm).symm
theorem known_filter (f : List (Option Int)) : ∀ c : List Nat, (∀ r ∈ c, r < f.length) → (c.filter fun r => ((f[r]?).join).isSome).map (fun r => oD ((f[r]?).join)) = (knownL f c).map D.int
  | [], _ => rfl
  | r :: c, h => by
    have ih := known_filter f c fun x hx => h x (.tail _ hx)
    unfold knownL at ih ⊢
    rw [List.filter_cons, List.filterMap_cons]
    cases hj : (f[r]?).join with
    | none =>
      simp only [hj, Option.isSome_none, Bool.false_eq_true, if_false]
      exact ih
    | some w =>
      simp only [hj, Option.isSome_some, if_true, List.map_cons]
      rw [ih]
      rfl
/-- the circle, from the least known one on -/
theorem circ_rot {m : Nat} {g : Int} {σ p : Nat} {v : Int} (hm : 0 < m) (hg : 0 < g) (hp : p < m / Int.gcd g m) (hv : v % m = ((σ : Int) + (p : Int) * g) % m) :
    (circI m g σ).drop p ++ (circI m g σ).take p = ((List.range (m / Int.gcd g m)).map fun i => rotN m g (v % m) i).map fun n : Nat => (n : Int) := by
  rw [circI_eq hm, ← List.map_drop, ← List.map_take, ← List.map_append]
  congr 1
  have hl : (circL m g σ).length = m / Int.gcd g m := by unfold circL; rw [List.length_map, List.length_range]
  have get : ∀ i, i < m / Int.gcd g m → (circL m g σ)[i]? = some (rotN m g σ i) := fun i hi => by
    unfold circL
    rw [List.getElem?_map, List.getElem?_eq_getElem (by rw [List.length_range]; exact hi), List.getElem_range]
    rfl
  refine List.ext_getElem? fun i => ?_
  by_cases hi : i < m / Int.gcd g m
  · rw [List.getElem?_map, List.getElem?_eq_getElem (l := List.range (m / Int.gcd g m)) (by rw [List.length_range]; exact hi), List.getElem_range]
    show _ = some (rotN m g (v % m) i)
    rw [hv, rotN_rot]
    by_cases h2 : i < m / Int.gcd g m - p
    · rw [List.getElem?_append_left (by rw [List.length_drop, hl]; exact h2), List.getElem?_drop, get _ (by omega)]
    · rw [List.getElem?_append_right (by rw [List.length_drop, hl]; omega), List.length_drop, hl, List.getElem?_take_of_lt (by omega), get _ (by omega), ← rotN_turn hg (i - (m / Int.gcd g m - p))]
      congr 2
      omega
  · rw [List.getElem?_eq_none (by rw [List.length_append, List.length_drop, List.length_take, hl]; omega), List.getElem?_eq_none (by rw [List.length_map, List.length_range]; omega)]

def ApP1 : SS :=
 (sAsg 2 true (sBin .Mult (sLst (sCons (sCon .non) sNil)) (sVar 1)))
def ApP2 : SS :=
 (sSetI (sVar 2) (sCon (.int 0)) (sCon (.int 0)))
def ApP3b : SS :=
 (sSeq2 (sAsg 4 false (sBin .FloorDiv (sVar 1) (sArgs Fgreatest_common (sCons (sVar 3) (sCons (sVar 1) sNil)))))
 (sSeq2 (sFor (sRng (sCons (sBin .FloorDiv (sVar 1) (sVar 4)) sNil)) (.name 5)
 (sSeq2 (sAsg 6 false (sComp (sRng (sCons (sVar 4) sNil)) (.name 11) sYes (sBin .Mod (sBin .Add (sVar 5) (sBin .Mult (sVar 11) (sVar 3))) (sVar 1)) (([("k", 11)] : List (Str × Nat)).map (·.2))))
 (sSeq2 (sAsg 7 false (sComp (sSeq (sVar 6)) (.name 10) (sB (sCmp .IsNot (sIdx (sVar 2) (sVar 10)) (sCon .non))) (sIdx (sVar 2) (sVar 10)) (([("r", 10)] : List (Str × Nat)).map (·.2))))
 (sSeq2 (sIfS (sB (sCmp .Gt (sArgs lenOp (sCons (sVar 7) sNil)) (sCon (.int 0))))
 (sSeq2 (sAsg 8 false (sIndex (sVar 6) (sBin .Mod (sArgs minOp2 (sCons (sVar 7) sNil)) (sVar 1))))
 (sSeq2 (sAsg 9 false (sArgs minOp2 (sCons (sVar 7) sNil)))
 (sSeq2 (sFor (sSeq (sBin .Add (sSlice (sVar 6) (some (sVar 8)) none) (sSlice (sVar 6) none (some (sVar 8))))) (.name 10)
 (sSeq2 (sAsg 9 false (sIf (sB (sCmp .Is (sIdx (sVar 2) (sVar 10)) (sCon .non))) (sVar 9) (sArgs minOp2 (sCons (sVar 9) (sCons (sIdx (sVar 2) (sVar 10)) sNil)))))
 (sSeq2 (sSetI (sVar 2) (sVar 10) (sVar 9))
 (sSeq2 (sAug 9 .Add (sVar 3))
 sSkip))))
 sSkip)))
 sSkip)
 sSkip))))
 sSkip))
def ApP3 : SS := sFor (sSeq (sVar 0)) (.name 3) ApP3b
def ApP4 : SS :=
 (sRet (sVar 2))
theorem Tapery_of_eq : Tapery_of = (sSeq2 ApP1 (sSeq2 ApP2 (sSeq2 ApP3 (sSeq2 ApP4 sSkip)))) := rfl
def ApQ1 : SS :=
 (sAsg 4 false (sBin .FloorDiv (sVar 1) (sArgs Fgreatest_common (sCons (sVar 3) (sCons (sVar 1) sNil)))))
def ApQ2b : SS :=
 (sSeq2 (sAsg 6 false (sComp (sRng (sCons (sVar 4) sNil)) (.name 11) sYes (sBin .Mod (sBin .Add (sVar 5) (sBin .Mult (sVar 11) (sVar 3))) (sVar 1)) (([("k", 11)] : List (Str × Nat)).map (·.2))))
 (sSeq2 (sAsg 7 false (sComp (sSeq (sVar 6)) (.name 10) (sB (sCmp .IsNot (sIdx (sVar 2) (sVar 10)) (sCon .non))) (sIdx (sVar 2) (sVar 10)) (([("r", 10)] : List (Str × Nat)).map (·.2))))
 (sSeq2 (sIfS (sB (sCmp .Gt (sArgs lenOp (sCons (sVar 7) sNil)) (sCon (.int 0))))
 (sSeq2 (sAsg 8 false (sIndex (sVar 6) (sBin .Mod (sArgs minOp2 (sCons (sVar 7) sNil)) (sVar 1))))
 (sSeq2 (sAsg 9 false (sArgs minOp2 (sCons (sVar 7) sNil)))
 (sSeq2 (sFor (sSeq (sBin .Add (sSlice (sVar 6) (some (sVar 8)) none) (sSlice (sVar 6) none (some (sVar 8))))) (.name 10)
 (sSeq2 (sAsg 9 false (sIf (sB (sCmp .Is (sIdx (sVar 2) (sVar 10)) (sCon .non))) (sVar 9) (sArgs minOp2 (sCons (sVar 9) (sCons (sIdx (sVar 2) (sVar 10)) sNil)))))
 (sSeq2 (sSetI (sVar 2) (sVar 10) (sVar 9))
 (sSeq2 (sAug 9 .Add (sVar 3))
 sSkip))))
 sSkip)))
 sSkip)
 sSkip)))
def ApQ2 : SS := sFor (sRng (sCons (sBin .FloorDiv (sVar 1) (sVar 4)) sNil)) (.name 5) ApQ2b
def ApQb : SS := (sSeq2 ApQ1 (sSeq2 ApQ2 sSkip))
def ApU1 : SS :=
 (sAsg 6 false (sComp (sRng (sCons (sVar 4) sNil)) (.name 11) sYes (sBin .Mod (sBin .Add (sVar 5) (sBin .Mult (sVar 11) (sVar 3))) (sVar 1)) (([("k", 11)] : List (Str × Nat)).map (·.2))))
def ApU2 : SS :=
 (sAsg 7 false (sComp (sSeq (sVar 6)) (.name 10) (sB (sCmp .IsNot (sIdx (sVar 2) (sVar 10)) (sCon .non))) (sIdx (sVar 2) (sVar 10)) (([("r", 10)] : List (Str × Nat)).map (·.2))))
def ApU3 : SS :=
 (sIfS (sB (sCmp .Gt (sArgs lenOp (sCons (sVar 7) sNil)) (sCon (.int 0))))
 (sSeq2 (sAsg 8 false (sIndex (sVar 6) (sBin .Mod (sArgs minOp2 (sCons (sVar 7) sNil)) (sVar 1))))
 (sSeq2 (sAsg 9 false (sArgs minOp2 (sCons (sVar 7) sNil)))
 (sSeq2 (sFor (sSeq (sBin .Add (sSlice (sVar 6) (some (sVar 8)) none) (sSlice (sVar 6) none (some (sVar 8))))) (.name 10)
 (sSeq2 (sAsg 9 false (sIf (sB (sCmp .Is (sIdx (sVar 2) (sVar 10)) (sCon .non))) (sVar 9) (sArgs minOp2 (sCons (sVar 9) (sCons (sIdx (sVar 2) (sVar 10)) sNil)))))
 (sSeq2 (sSetI (sVar 2) (sVar 10) (sVar 9))
 (sSeq2 (sAug 9 .Add (sVar 3))
 sSkip))))
 sSkip)))
 sSkip)
def ApUb : SS := (sSeq2 ApU1 (sSeq2 ApU2 (sSeq2 ApU3 sSkip)))
theorem div_eq {i j r : Int} (h0 : 0 < j) (h1 : j < 1073741824) (e : i / j = r) (M : Mem) : binop .FloorDiv (opnd M (.d (.int i))) (opnd M (.d (.int j))) M = .ok (.d (.int r)) M := by
  show (if 0 < j then guard (divOk j) (Out.ok (AV.d (.int (i / j))) M) else guard (decide (j ≠ 0) && divOk j) (Out.ok (AV.d (.int (i.fdiv j))) M)) = _
  rw [if_pos h0]
  unfold guard
  rw [if_pos (div_s (by omega) h1), e]
theorem apu_eq : ApQ2b = ApUb := rfl
theorem apq_eq : ApP3b = ApQb := rfl
theorem goP_sd {L : List Int} {m : Nat} {g : Int} {f : List (Option Int)} {σ : Nat} (hm : 0 < m) (hg : g ∈ L) (sd : Sd L m f) : Sd L m (goP m g f σ) := by
  by_cases hc : knownL f (circL m g σ) = []
  · unfold goP
    rw [if_pos hc]
    exact sd
  · obtain ⟨p, hp1, hp2, hp3⟩ := goP_start hm sd hc
    unfold goP
    rw [if_neg hc]
    refine (walkN_sd hm sd hg (sd.2 _ _ hp3).1 ?_ _).1
    rw [rotN_cast hm]
    simp
def minI : List Int → Int
  | [] => 0
  | x :: r => minL x r
theorem min_lst {c : List Int} (h : c ≠ []) {M : Mem} : minOp2 [.d (.lst (c.map .int))] M = .ok (.d (.int (minI c))) M := by
  cases c with
  | nil => exact absurd rfl h
  | cons x r => exact min2_l
theorem minI_eq (c : List Int) : minI c = minLs c := by
  cases c with
  | nil => rfl
  | cons x r => exact (minL_fold r x).symm
theorem idx_li2 {c : List Int} {M : Mem} : lstOf M (.d (.lst (c.map .int))) = some (c.map .int) := rfl
section
variable {M : Mem} {lot : List Int} {m σ : Nat} {g : Int} {f : List (Option Int)} {o4 o5 o6 o7 o8 o9 o10 o11 : Option AV} (hm : 0 < m) (hm2 : m ≤ 1000) (hg : 0 < g) (hg2 : g ≤ 1000) (hml : g ∈ lot) (sd : Sd lot m f) (hσ : σ < 1001)
include hm hm2 hg hg2
theorem apn_le : m / Int.gcd g m ≤ 1000 := Nat.le_trans (Nat.div_le_self _ _) hm2
theorem apu1_ok : ApU1 (AE M lot m g (some (.d (.int ((m / Int.gcd g m : Nat) : Int)))) (some (.d (.int (σ : Nat)))) o6 o7 o8 o9 o10 o11) (Cf M f) = .ok (.next (AE M lot m g (some (.d (.int ((m / Int.gcd g m : Nat) : Int)))) (some (.d (.int (σ : Nat)))) (some (.d (.lst ((circI m g σ).map .int)))) o7 o8 o9 o10 o11)) (Cf M f) := by
  have hn := apn_le hm hm2 hg hg2
  have hmi : (0 : Int) < m := by omega
  refine el_start ?_
  unfold ApU1
  repeat' (first | (wtm_at "mpA") | (wtm_at "mp0"))
  refine e_compR (fun k : Nat => .int (((σ : Int) + (k : Int) * g) % m)) (by omega) (fun k hk => ⟨_, rfl, .d (.int (((σ : Int) + (k : Int) * g) % m)), el_start ?_, rfl⟩) ?_
  · repeat' (first | (wtm_at "mpA") | (wtm_at "mp1"))
    rfl
  · have e : (List.range (m / Int.gcd g m)).map (fun k : Nat => D.int (((σ : Int) + (k : Int) * g) % m)) = (circI m g σ).map .int := by
      unfold circI
      rw [List.map_map]
      rfl
    rw [e]
    repeat' (first | (wtm_at "mpA") | (wtm_at "mp1"))
    rfl
include hml sd
theorem apu2_ok : ApU2 (AE M lot m g o4 o5 (some (.d (.lst ((circI m g σ).map .int)))) o7 o8 o9 o10 o11) (Cf M f) = .ok (.next (AE M lot m g o4 o5 (some (.d (.lst ((circI m g σ).map .int)))) (some (.d (.lst ((knownL f (circL m g σ)).map .int)))) o8 o9 o10 o11)) (Cf M f) := by
  have hn := apn_le hm hm2 hg hg2
  have hr : ∀ r ∈ circL m g σ, r < f.length := fun r hr => by
    unfold circL at hr
    obtain ⟨k, _, rfl⟩ := List.mem_map.mp hr
    rw [sd.1]
    exact rotN_lt hm
  refine el_start ?_
  unfold ApU2
  rw [circI_eq hm, List.map_map]
  repeat' (first | (wtm_at "mpA") | (wtm_at "mp0"))
  refine e_compM (φ := fun r : Nat => D.int (r : Int)) (circL m g σ) (fun r => oD ((f[r]?).join)) (fun r => ((f[r]?).join).isSome) (fun r hc => ⟨_, rfl, el_start ?_, fun hp => ⟨.d (oD ((f[r]?).join)), el_start ?_, rfl⟩⟩) (by unfold circL; rw [List.length_map, List.length_range]; omega) ?_
  · have h1 := hr r hc
    have i1 := cf_idx (M := M) (List.getElem?_eq_getElem h1)
    cases ho : f[r] with
    | none =>
      rw [ho] at i1
      rw [List.getElem?_eq_getElem h1, ho]
      repeat' (first | (wtm_at "mpA") | (with_reducible apply p_idx i1) | (wtm_at "mp1"))
      rfl
    | some w =>
      rw [ho] at i1
      rw [List.getElem?_eq_getElem h1, ho]
      repeat' (first | (wtm_at "mpA") | (with_reducible apply p_idx i1) | (wtm_at "mp1"))
      rfl
  · have h1 := hr r hc
    have i1 := cf_idx (M := M) (List.getElem?_eq_getElem h1)
    rw [List.getElem?_eq_getElem h1]
    repeat' (first | (wtm_at "mpA") | (with_reducible apply p_idx i1) | (wtm_at "mp1"))
    rfl
  · rw [known_filter f _ hr]
    repeat' (first | (wtm_at "mpA") | (wtm_at "mp1"))
    rfl
theorem apu3_ok : ∃ o8' o9' o10', ApU3 (AE M lot m g o4 o5 (some (.d (.lst ((circI m g σ).map .int)))) (some (.d (.lst ((knownL f (circL m g σ)).map .int)))) o8 o9 o10 o11) (Cf M f) = .ok (.next (AE M lot m g o4 o5 (some (.d (.lst ((circI m g σ).map .int)))) (some (.d (.lst ((knownL f (circL m g σ)).map .int)))) o8' o9' o10' o11)) (Cf M (goP m g f σ)) := by
  have hn := apn_le hm hm2 hg hg2
  have hmi : (0 : Int) < m := by omega
  have hkl : (knownL f (circL m g σ)).length ≤ 1000 := by
    unfold knownL
    refine Nat.le_trans (List.length_filterMap_le _ _) ?_
    unfold circL
    rw [List.length_map, List.length_range]
    exact hn
  have l1 : ∀ M, lenOp [.d (.lst ((knownL f (circL m g σ)).map .int))] M = .ok (.d (.int (knownL f (circL m g σ)).length)) M := fun M => by
    show Out.ok (AV.d (.int (((knownL f (circL m g σ)).map D.int).length : Nat))) M = _
    rw [List.length_map]
  by_cases hc : knownL f (circL m g σ) = []
  · refine ⟨o8, o9, o10, el_start ?_⟩
    unfold goP
    rw [if_pos hc, hc]
    unfold ApU3
    repeat' (first | (wtm_at "mpA") | (wtm_at "mp1"))
    rfl
  · obtain ⟨p, hp1, hp2, hp3⟩ := goP_start hm sd hc
    have hpos : 0 < (knownL f (circL m g σ)).length := List.length_pos_iff.mpr hc
    have mn : ∀ M, minOp2 [.d (.lst ((knownL f (circL m g σ)).map .int))] M = .ok (.d (.int (minLs (knownL f (circL m g σ))))) M := fun M => by rw [min_lst hc, minI_eq]
    unfold goP
    rw [if_neg hc]
    generalize hv : minLs (knownL f (circL m g σ)) = v at *
    have hmem : v % m ∈ circI m g σ := by
      unfold circI
      exact List.mem_map.mpr ⟨p, List.mem_range.mpr hp1, hp2.symm⟩
    have hcl : (circI m g σ).length = m / Int.gcd g m := by unfold circI; rw [List.length_map, List.length_range]
    have hq : (circI m g σ).idxOf (v % m) < m / Int.gcd g m := by rw [← hcl]; exact List.idxOf_lt_length_iff.mpr hmem
    have hqv : v % m = ((σ : Int) + (((circI m g σ).idxOf (v % m) : Nat) : Int) * g) % m := by
      have h1 := idxOf_get (List.idxOf_lt_length_iff.mpr hmem)
      conv at h1 => lhs; unfold circI
      rw [List.getElem?_map, List.getElem?_eq_getElem (by rw [List.length_range]; exact hq), List.getElem_range] at h1
      exact (Option.some.inj h1).symm
    have rot := circ_rot hm hg hq hqv
    have md : (sBin .Mod (sArgs minOp2 (sCons (sVar 7) sNil)) (sVar 1)) (AE M lot m g o4 o5 (some (.d (.lst ((circI m g σ).map .int)))) (some (.d (.lst ((knownL f (circL m g σ)).map .int)))) o8 o9 o10 o11) (Cf M f) = .ok (.d (.int (v % m))) (Cf M f) := by
      refine el_start ?_
      repeat' (first | (wtm_at "mpA") | (with_reducible apply e_call (mn _)) | (wtm_at "mp1"))
      rfl
    have ix := index_eq (fo := sVar 6) (o := .d (.lst ((circI m g σ).map .int))) (env := AE M lot m g o4 o5 (some (.d (.lst ((circI m g σ).map .int)))) (some (.d (.lst ((knownL f (circL m g σ)).map .int)))) o8 o9 o10 o11) (M := Cf M f) rfl md idx_li2 hmem
    generalize (circI m g σ).idxOf (v % m) = q at hq rot ix
    have c1 : ∀ M, cutop (.d (.lst ((circI m g σ).map .int))) (some (q : Int)) none M = .ok (.fr (((circI m g σ).drop q).map .int)) M := fun M => by
      show Out.ok (AV.fr (cutG ((circI m g σ).map D.int) (some (q : Int)) none)) M = _
      rw [cutG_n0, List.map_drop]
    have c2 : ∀ M, cutop (.d (.lst ((circI m g σ).map .int))) none (some (q : Int)) M = .ok (.fr (((circI m g σ).take q).map .int)) M := fun M => by
      show Out.ok (AV.fr (cutG ((circI m g σ).map D.int) (some ((0 : Nat) : Int)) (some (q : Int)))) M = _
      rw [cutG_nn _ _ _ (Nat.zero_le _), List.drop_zero, Nat.sub_zero, List.map_take]
    have a1 : ∀ M, binop .Add (opnd M (.fr (((circI m g σ).drop q).map .int))) (opnd M (.fr (((circI m g σ).take q).map .int))) M = .ok (.fr (((List.range (m / Int.gcd g m)).map fun i => rotN m g (v % m) i).map fun r : Nat => D.int (r : Int))) M := fun M => by
      rw [add_ff (by rw [List.length_map, List.length_map, List.length_drop, List.length_take, hcl]; omega), ← List.map_append, rot, List.map_map]
      rfl
    obtain ⟨env', M', e, ⟨o10', rfl⟩, rfl, _⟩ := for_mapF (body := AwB) (tg := .name 10) (φ := fun r : Nat => D.int (r : Int)) (I := fun (s : List (Option Int) × Int) env M' => (∃ o10, env = AE M lot m g o4 o5 (some (.d (.lst ((circI m g σ).map .int)))) (some (.d (.lst ((knownL f (circL m g σ)).map .int)))) (some (.d (.int (q : Nat)))) (some (.d (.int s.2))) o10 o11) ∧ M' = Cf M s.1 ∧ s.1.length = m)
      (walkF g) (f, v) ((List.range (m / Int.gcd g m)).map fun i => rotN m g (v % m) i) (fun d a r e env M' h => by
        obtain ⟨⟨o10, rfl⟩, rfl, hl⟩ := h
        have ha : a < m := by
          have : a ∈ (List.range (m / Int.gcd g m)).map fun i => rotN m g (v % m) i := by rw [e]; exact List.mem_append_right _ List.mem_cons_self
          obtain ⟨i, _, rfl⟩ := List.mem_map.mp this
          exact rotN_lt hm
        exact ⟨_, _, _, rfl, awb_ok (by rw [hl]; exact ha), ⟨_, rfl⟩, rfl, by show (List.set _ _ _).length = m; rw [List.length_set]; exact hl⟩) (env := AE M lot m g o4 o5 (some (.d (.lst ((circI m g σ).map .int)))) (some (.d (.lst ((knownL f (circL m g σ)).map .int)))) (some (.d (.int (q : Nat)))) (some (.d (.int v))) o10 o11) (M := Cf M f) ⟨⟨_, rfl⟩, rfl, sd.1⟩
    refine ⟨some (.d (.int (q : Nat))), some (.d (.int (List.foldl (walkF g) (f, v) ((List.range (m / Int.gcd g m)).map fun i => rotN m g (v % m) i)).2)), o10', el_start ?_⟩
    unfold ApU3
    repeat' (first | (wtm_at "mpA") | (with_reducible apply e_call (l1 _)) | (wtm_at "mp1"))
    refine e_is ix ?_
    repeat' (first | (wtm_at "mpA") | (with_reducible apply e_call (mn _)) | (with_reducible apply p_cut (c1 _)) | (with_reducible apply p_cut (c2 _)) | (with_reducible apply p_bin (a1 _)) | (wtm_at "mp1"))
    refine e_is e ?_
    unfold walkN
    rw [List.foldl_map]
    rfl
theorem apq2b_ok : ∃ o6' o7' o8' o9' o10', ApQ2b (AE M lot m g (some (.d (.int ((m / Int.gcd g m : Nat) : Int)))) (some (.d (.int (σ : Nat)))) o6 o7 o8 o9 o10 o11) (Cf M f) = .ok (.next (AE M lot m g (some (.d (.int ((m / Int.gcd g m : Nat) : Int)))) (some (.d (.int (σ : Nat)))) o6' o7' o8' o9' o10' o11)) (Cf M (goP m g f σ)) := by
  obtain ⟨o8', o9', o10', e3⟩ := apu3_ok (M := M) (σ := σ) (o4 := some (.d (.int ((m / Int.gcd g m : Nat) : Int)))) (o5 := some (.d (.int (σ : Nat)))) (o8 := o8) (o9 := o9) (o10 := o10) (o11 := o11) hm hm2 hg hg2 hml sd
  refine ⟨some (.d (.lst ((circI m g σ).map .int))), some (.d (.lst ((knownL f (circL m g σ)).map .int))), o8', o9', o10', el_start ?_⟩
  rw [apu_eq]
  unfold ApUb
  refine e_stmt (apu1_ok hm hm2 hg hg2) (e_stmt (apu2_ok hm hm2 hg hg2 hml sd) (e_stmt e3 ?_))
  rfl
theorem app3b_ok : ∃ o4' o5' o6' o7' o8' o9' o10', ApP3b (AE M lot m g o4 o5 o6 o7 o8 o9 o10 o11) (Cf M f) = .ok (.next (AE M lot m g o4' o5' o6' o7' o8' o9' o10' o11)) (Cf M (stepP m f g)) := by
  have hd : 0 < Int.gcd g m := Int.gcd_pos_of_ne_zero_left _ (by omega)
  have hdm : (Int.gcd g m : Nat) ∣ m := Int.natCast_dvd_natCast.mp (Int.gcd_dvd_right (a := g) (b := (m : Int)))
  have hd2 : Int.gcd g m ≤ 1000 := Nat.le_trans (Nat.le_of_dvd hm hdm) hm2
  have hn : 0 < m / Int.gcd g m := Nat.div_pos (Nat.le_of_dvd hm hdm) hd
  have hn2 := apn_le hm hm2 hg hg2
  have q1 : ((m : Nat) : Int) / ((Int.gcd g m : Nat) : Int) = ((m / Int.gcd g m : Nat) : Int) := (Int.natCast_ediv ..).symm
  have q2 : ((m : Nat) : Int) / ((m / Int.gcd g m : Nat) : Int) = ((Int.gcd g m : Nat) : Int) := by
    rw [← Int.natCast_ediv, Nat.div_div_self hdm (by omega)]
  obtain ⟨env', M', e, ⟨o5', o6', o7', o8', o9', o10', rfl⟩, rfl, _⟩ := for_rngF (body := ApQ2b) (tg := .name 5) (n := Int.gcd g m) (I := fun (s : List (Option Int)) env M' => (∃ o5 o6 o7 o8 o9 o10, env = AE M lot m g (some (.d (.int ((m / Int.gcd g m : Nat) : Int)))) o5 o6 o7 o8 o9 o10 o11) ∧ M' = Cf M s ∧ Sd lot m s) (goP m g) f (fun i s hi _ env M' h => by
    obtain ⟨⟨o5, o6, o7, o8, o9, o10, rfl⟩, rfl, sd⟩ := h
    obtain ⟨o6', o7', o8', o9', o10', e⟩ := apq2b_ok (M := M) (σ := i) (o6 := o6) (o7 := o7) (o8 := o8) (o9 := o9) (o10 := o10) (o11 := o11) hm hm2 hg hg2 hml sd
    exact ⟨_, _, _, rfl, e, ⟨_, _, _, _, _, _, rfl⟩, rfl, goP_sd hm hml sd⟩) (env := AE M lot m g (some (.d (.int ((m / Int.gcd g m : Nat) : Int)))) o5 o6 o7 o8 o9 o10 o11) (M := Cf M f) ⟨⟨_, _, _, _, _, _, rfl⟩, rfl, sd⟩
  have gc : ∀ M, Fgreatest_common [.d (.int g), .d (.int (m : Nat))] M = .ok (.d (.int (Int.gcd g m : Nat))) M := fun M => gcd_ok (by omega)
  refine ⟨some (.d (.int ((m / Int.gcd g m : Nat) : Int))), o5', o6', o7', o8', o9', o10', el_start ?_⟩
  rw [apq_eq]
  unfold ApQb ApQ1 ApQ2
  have b1 := fun M => div_eq (M := M) (show (0 : Int) < (Int.gcd g m : Nat) by omega) (by omega) q1
  have b2 := fun M => div_eq (M := M) (show (0 : Int) < (m / Int.gcd g m : Nat) by omega) (by omega) q2
  repeat' (first | (wtm_at "mpA") | (with_reducible apply e_call (gc _)) | (with_reducible apply p_bin (b1 _)) | (with_reducible apply p_bin (b2 _)) | (wtm_at "mp0"))
  refine e_is e ?_
  rfl
end
theorem apery_ok {lot : List Int} {m : Nat} (hm : 0 < m) (hm2 : m ≤ 1000) (hl : ∀ y ∈ lot, 1 ≤ y ∧ y ≤ 1000) {M : Mem} : Fapery_of [.d (ti lot), .d (.int (m : Nat))] M = .ok (.fr ((apP lot m).map oD)) M := by
  have hp : PosL lot := fun y hy => by have := hl y hy; omega
  have m1 : ∀ M, binop .Mult (opnd M (.fr [.non])) (opnd M (.d (.int (m : Nat)))) M = .ok (.fr (List.replicate m .non)) M := fun M => by rw [mul_l1 (by omega) (by omega), Int.toNat_natCast]
  have r0 : (List.replicate m D.non).set 0 (.int 0) = (ap0 m).map oD := by
    unfold ap0
    cases m with
    | zero => omega
    | succ m => rw [List.replicate_succ, List.set_cons_zero, List.map_cons, List.map_replicate]; rfl
  have sd0 : Sd lot m (ap0 m) := by
    have := ap_nil hm
    exact Sd.mono ⟨this.len, this.sound⟩ fun s hs => hs.mono fun x hx => absurd hx List.not_mem_nil
  obtain ⟨env', M', e, ⟨o3, o4, o5, o6, o7, o8, o9, o10, rfl⟩, rfl, _⟩ := for_mapF (body := ApP3b) (tg := .name 3) (φ := D.int) (I := fun (s : List (Option Int)) env M' => (∃ o3 o4 o5 o6 o7 o8 o9 o10, env = [some (.d (ti lot)), some (.d (.int (m : Nat))), some (.cell M.length), o3, o4, o5, o6, o7, o8, o9, o10, none]) ∧ M' = Cf M s ∧ Sd lot m s)
    (stepP m) (ap0 m) lot (fun d a r e env M' h => by
      obtain ⟨⟨o3, o4, o5, o6, o7, o8, o9, o10, rfl⟩, rfl, sd⟩ := h
      have ha : a ∈ lot := by rw [e]; exact List.mem_append_right _ List.mem_cons_self
      have hb := hl a ha
      obtain ⟨o4', o5', o6', o7', o8', o9', o10', e2⟩ := app3b_ok (M := M) (o4 := o4) (o5 := o5) (o6 := o6) (o7 := o7) (o8 := o8) (o9 := o9) (o10 := o10) (o11 := none) hm hm2 (show 0 < a by omega) hb.2 ha sd
      refine ⟨_, _, _, rfl, e2, ⟨some (.d (.int a)), _, _, _, _, _, _, _, rfl⟩, rfl, ?_⟩
      exact fold_sd (fun f σ sd => goP_sd hm ha sd) _ _ sd) (env := [some (.d (ti lot)), some (.d (.int (m : Nat))), some (.cell M.length), none, none, none, none, none, none, none, none, none]) (M := Cf M (ap0 m)) ⟨⟨_, _, _, _, _, _, _, _, rfl⟩, rfl, sd0⟩
  have s2 : ∀ (env : Env), env[2]? = some (some (.cell M.length)) → ApP2 env (M ++ [some (.l (List.replicate m D.non))]) = .ok (.next env) (Cf M (ap0 m)) := fun env he => by
    have s := setI_eq (fo := sVar 2) (fi := sCon (.int 0)) (fv := sCon (.int 0)) (env := env) (M := M ++ [some (.l (List.replicate m D.non))]) (c := M.length) (i := 0) (z := .int 0) (by unfold sVar; rw [he]; rfl) rfl rfl last_get ⟨Int.le_refl 0, by rw [List.length_replicate]; omega⟩
    rw [show (0 : Int).toNat = 0 from rfl, last_set, r0] at s
    exact s
  unfold Fapery_of
  refine e_fn rfl ?_
  rw [Tapery_of_eq]
  unfold ApP1
  refine e_seq (e_asg ?_)
  repeat' (first | (wtm_at "mpA") | (with_reducible apply p_bin (m1 _)) | (wtm_at "mp1"))
  refine e_is (r := ApP2 _ _) (s2 _ rfl) ?_
  unfold ApP3
  repeat' (first | (wtm_at "mpA") | (wtm_at "mp1"))
  refine e_is e ?_
  unfold ApP4
  repeat' (first | (wtm_at "mpA") | (wtm_at "mp1"))
  exact r_c

def LaP1 : SS :=
 (sAsg 2 true (sBin .Add (sLst (sCons (sCon (.int 0)) sNil)) (sBin .Mult (sLst (sCons (sCon .non) sNil)) (sBin .Sub (sVar 1) (sCon (.int 1))))))
def LaP2b : SS :=
 (sSeq2 (sAsg 4 false (sArgs F_law_gcd (sCons (sLst (sCons (sVar 3) (sCons (sVar 1) sNil))) sNil)))
 (sSeq2 (sFor (sRng (sCons (sVar 4) sNil)) (.name 5)
 (sSeq2 (sAsg 6 false (sVar 5))
 (sSeq2 (sFor (sRng (sCons (sBin .Mult (sCon (.int 2)) (sBin .FloorDiv (sVar 1) (sVar 4))) sNil)) (.name 7)
 (sSeq2 (sAsg 8 false (sBin .Mod (sArgs intOp (sCons (sBin .Add (sVar 6) (sVar 3)) sNil)) (sVar 1)))
 (sSeq2 (sIfS (sAndB (sB (sCmp .IsNot (sIdx (sVar 2) (sVar 6)) (sCon .non))) (sOrB (sB (sCmp .Is (sIdx (sVar 2) (sVar 8)) (sCon .non))) (sB (sCmp .Gt (sIdx (sVar 2) (sVar 8)) (sBin .Add (sIdx (sVar 2) (sVar 6)) (sVar 3))))))
 (sSeq2 (sSetI (sVar 2) (sVar 8) (sBin .Add (sIdx (sVar 2) (sVar 6)) (sVar 3)))
 sSkip)
 sSkip)
 (sSeq2 (sAsg 6 false (sVar 8))
 sSkip))))
 sSkip)))
 sSkip))
def LaP2 : SS := sFor (sSeq (sVar 0)) (.name 3) LaP2b
def LaP3 : SS :=
 (sRet (sVar 2))
theorem T_law_apery_eq : T_law_apery = (sSeq2 LaP1 (sSeq2 LaP2 (sSeq2 LaP3 sSkip))) := rfl
def LaQ1 : SS :=
 (sAsg 4 false (sArgs F_law_gcd (sCons (sLst (sCons (sVar 3) (sCons (sVar 1) sNil))) sNil)))
def LaQ2b : SS :=
 (sSeq2 (sAsg 6 false (sVar 5))
 (sSeq2 (sFor (sRng (sCons (sBin .Mult (sCon (.int 2)) (sBin .FloorDiv (sVar 1) (sVar 4))) sNil)) (.name 7)
 (sSeq2 (sAsg 8 false (sBin .Mod (sArgs intOp (sCons (sBin .Add (sVar 6) (sVar 3)) sNil)) (sVar 1)))
 (sSeq2 (sIfS (sAndB (sB (sCmp .IsNot (sIdx (sVar 2) (sVar 6)) (sCon .non))) (sOrB (sB (sCmp .Is (sIdx (sVar 2) (sVar 8)) (sCon .non))) (sB (sCmp .Gt (sIdx (sVar 2) (sVar 8)) (sBin .Add (sIdx (sVar 2) (sVar 6)) (sVar 3))))))
 (sSeq2 (sSetI (sVar 2) (sVar 8) (sBin .Add (sIdx (sVar 2) (sVar 6)) (sVar 3)))
 sSkip)
 sSkip)
 (sSeq2 (sAsg 6 false (sVar 8))
 sSkip))))
 sSkip))
def LaQ2 : SS := sFor (sRng (sCons (sVar 4) sNil)) (.name 5) LaQ2b
def LaQb : SS := (sSeq2 LaQ1 (sSeq2 LaQ2 sSkip))
def LaU1 : SS :=
 (sAsg 6 false (sVar 5))
def LaU2b : SS :=
 (sSeq2 (sAsg 8 false (sBin .Mod (sArgs intOp (sCons (sBin .Add (sVar 6) (sVar 3)) sNil)) (sVar 1)))
 (sSeq2 (sIfS (sAndB (sB (sCmp .IsNot (sIdx (sVar 2) (sVar 6)) (sCon .non))) (sOrB (sB (sCmp .Is (sIdx (sVar 2) (sVar 8)) (sCon .non))) (sB (sCmp .Gt (sIdx (sVar 2) (sVar 8)) (sBin .Add (sIdx (sVar 2) (sVar 6)) (sVar 3))))))
 (sSeq2 (sSetI (sVar 2) (sVar 8) (sBin .Add (sIdx (sVar 2) (sVar 6)) (sVar 3)))
 sSkip)
 sSkip)
 (sSeq2 (sAsg 6 false (sVar 8))
 sSkip)))
def LaU2 : SS := sFor (sRng (sCons (sBin .Mult (sCon (.int 2)) (sBin .FloorDiv (sVar 1) (sVar 4))) sNil)) (.name 7) LaU2b
def LaUb : SS := (sSeq2 LaU1 (sSeq2 LaU2 sSkip))
def LaV1 : SS :=
 (sAsg 8 false (sBin .Mod (sArgs intOp (sCons (sBin .Add (sVar 6) (sVar 3)) sNil)) (sVar 1)))
def LaV2 : SS :=
 (sIfS (sAndB (sB (sCmp .IsNot (sIdx (sVar 2) (sVar 6)) (sCon .non))) (sOrB (sB (sCmp .Is (sIdx (sVar 2) (sVar 8)) (sCon .non))) (sB (sCmp .Gt (sIdx (sVar 2) (sVar 8)) (sBin .Add (sIdx (sVar 2) (sVar 6)) (sVar 3))))))
 (sSeq2 (sSetI (sVar 2) (sVar 8) (sBin .Add (sIdx (sVar 2) (sVar 6)) (sVar 3)))
 sSkip)
 sSkip)
def LaV3 : SS :=
 (sAsg 6 false (sVar 8))
def LaVb : SS := (sSeq2 LaV1 (sSeq2 LaV2 (sSeq2 LaV3 sSkip)))
theorem lav_eq : LaU2b = LaVb := rfl
theorem lau_eq : LaQ2b = LaUb := rfl
theorem laq_eq : LaP2b = LaQb := rfl
abbrev LA (M : Mem) (lot : List Int) (m g : Int) (o4 o5 o6 o7 o8 : Option AV) : Env := [some (.d (ti lot)), some (.d (.int m)), some (.cell M.length), some (.d (.int g)), o4, o5, o6, o7, o8]
section
variable {M : Mem} {lot : List Int} {m : Nat} {g : Int} {f : List (Option Int)} {o4 o5 o6 o7 o8 : Option AV}
theorem lav2_ok {r s : Nat} (hr : r < f.length) (hs : s < f.length) : LaV2 (LA M lot m g o4 o5 (some (.d (.int (r : Nat)))) o7 (some (.d (.int (s : Nat))))) (Cf M f) = .ok (.next (LA M lot m g o4 o5 (some (.d (.int (r : Nat)))) o7 (some (.d (.int (s : Nat)))))) (Cf M (relF g f r s)) := by
  have hl : (f.map oD).length = f.length := List.length_map ..
  have i1 := cf_idx (M := M) (List.getElem?_eq_getElem hr)
  have i2 := cf_idx (M := M) (List.getElem?_eq_getElem hs)
  have rl : relF g f r s = match f[r] with
      | some a => match f[s] with
        | none => f.set s (some (a + g))
        | some b => if a + g < b then f.set s (some (a + g)) else f
      | none => f := by
    unfold relF
    rw [List.getElem?_eq_getElem hr, List.getElem?_eq_getElem hs]
    cases f[r] with
    | none => rfl
    | some a =>
      cases f[s] <;> rfl
  rw [rl]
  have st : ∀ a : Int, idx (.cell M.length) (.d (.int (r : Nat))) (Cf M f) = .ok (.d (.int a)) (Cf M f) → (sSeq2 (sSetI (sVar 2) (sVar 8) (sBin .Add (sIdx (sVar 2) (sVar 6)) (sVar 3))) sSkip) (LA M lot m g o4 o5 (some (.d (.int (r : Nat)))) o7 (some (.d (.int (s : Nat))))) (Cf M f) = .ok (.next (LA M lot m g o4 o5 (some (.d (.int (r : Nat)))) o7 (some (.d (.int (s : Nat)))))) (Cf M (f.set s (some (a + g)))) := fun a ha => by
    have v : (sBin .Add (sIdx (sVar 2) (sVar 6)) (sVar 3)) (LA M lot m g o4 o5 (some (.d (.int (r : Nat)))) o7 (some (.d (.int (s : Nat))))) (Cf M f) = .ok (.d (.int (a + g))) (Cf M f) := by
      refine el_start ?_
      repeat' (first | (wtm_at "mpA") | (with_reducible apply p_idx ha) | (wtm_at "mp1"))
      rfl
    have s0 := setI_eq (fo := sVar 2) (fi := sVar 8) (env := LA M lot m g o4 o5 (some (.d (.int (r : Nat)))) o7 (some (.d (.int (s : Nat))))) (M := Cf M f) (c := M.length) (i := (s : Nat)) rfl rfl v last_get ⟨by omega, by rw [hl]; omega⟩
    rw [Int.toNat_natCast, cf_set, last_set] at s0
    refine el_start ?_
    refine e_stmt s0 ?_
    rfl
  refine el_start ?_
  unfold LaV2
  cases hfr : f[r] with
  | none =>
    rw [hfr] at i1
    dsimp only
    repeat' (first | (wtm_at "mpA") | (with_reducible apply p_idx i1) | (wtm_at "mp1"))
    rfl
  | some a =>
    rw [hfr] at i1
    have st := st a i1
    dsimp only
    cases hfs : f[s] with
    | none =>
      rw [hfs] at i2
      dsimp only
      have c0 : (sAndB (sB (sCmp .IsNot (sIdx (sVar 2) (sVar 6)) (sCon .non))) (sOrB (sB (sCmp .Is (sIdx (sVar 2) (sVar 8)) (sCon .non))) (sB (sCmp .Gt (sIdx (sVar 2) (sVar 8)) (sBin .Add (sIdx (sVar 2) (sVar 6)) (sVar 3)))))) (LA M lot m g o4 o5 (some (.d (.int (r : Nat)))) o7 (some (.d (.int (s : Nat))))) (Cf M f) = .ok true (Cf M f) := by
        refine el_start ?_
        repeat' (first | (wtm_at "mpA") | (with_reducible apply p_idx i1) | (with_reducible apply p_idx i2) | (wtm_at "mp1"))
        rfl
      refine e_ifS (e_is c0 (e_condT ?_))
      refine e_is st ?_
      rfl
    | some b =>
      rw [hfs] at i2
      dsimp only
      have c0 : (sAndB (sB (sCmp .IsNot (sIdx (sVar 2) (sVar 6)) (sCon .non))) (sOrB (sB (sCmp .Is (sIdx (sVar 2) (sVar 8)) (sCon .non))) (sB (sCmp .Gt (sIdx (sVar 2) (sVar 8)) (sBin .Add (sIdx (sVar 2) (sVar 6)) (sVar 3)))))) (LA M lot m g o4 o5 (some (.d (.int (r : Nat)))) o7 (some (.d (.int (s : Nat))))) (Cf M f) = .ok (decide (a + g < b)) (Cf M f) := by
        refine el_start ?_
        by_cases h : r = s
        · subst h
          rw [hfr] at hfs
          cases hfs
          repeat' (first | (wtm_at "mpA") | (with_reducible apply p_idx i1) | (wtm_at "mp1"))
          rfl
        · repeat' (first | (wtm_at "mpA") | (with_reducible apply p_idx i1) | (with_reducible apply p_idx i2) | (wtm_at "mp1"))
          rfl
      refine e_ifS (e_is c0 ?_)
      by_cases h : a + g < b
      · rw [decide_eq_true h, if_pos h]
        refine e_condT ?_
        refine e_is st ?_
        rfl
      · rw [decide_eq_false h, if_neg h]
        refine e_condF ?_
        rfl
variable (hm : 0 < m) (hm2 : m ≤ 1000) (hg : 0 < g) (hg2 : g ≤ 1000)
include hm hm2 hg hg2
theorem lavb_ok {σ : Int} {i : Nat} (hf : f.length = m) : ∃ o8', LaU2b (LA M lot m g o4 o5 (some (.d (.int (rotN m g σ i : Nat)))) o7 o8) (Cf M f) = .ok (.next (LA M lot m g o4 o5 (some (.d (.int (rotN m g σ (i + 1) : Nat)))) o7 o8')) (Cf M (relF g f (rotN m g σ i) (rotN m g σ (i + 1)))) := by
  have hmi : (0 : Int) < m := by omega
  have hr : rotN m g σ i < m := rotN_lt hm
  have hs : rotN m g σ (i + 1) < m := rotN_lt hm
  have e1 : LaV1 (LA M lot m g o4 o5 (some (.d (.int (rotN m g σ i : Nat)))) o7 o8) (Cf M f) = .ok (.next (LA M lot m g o4 o5 (some (.d (.int (rotN m g σ i : Nat)))) o7 (some (.d (.int (rotN m g σ (i + 1) : Nat)))))) (Cf M f) := by
    rw [← rotN_succ (i := i) hm]
    refine el_start ?_
    unfold LaV1
    repeat' (first | (wtm_at "mpA") | (wtm_at "mp1"))
    rfl
  refine ⟨some (.d (.int (rotN m g σ (i + 1) : Nat))), el_start ?_⟩
  rw [lav_eq]
  unfold LaVb
  refine e_stmt e1 (e_stmt (lav2_ok (by omega) (by omega)) ?_)
  unfold LaV3
  repeat' (first | (wtm_at "mpA") | (wtm_at "mp1"))
  rfl
theorem laub_ok {σ : Nat} (hf : f.length = m) (hσ : σ < Int.gcd g m) : ∃ o6' o7' o8', LaQ2b (LA M lot m g (some (.d (.int (Int.gcd g m : Nat)))) (some (.d (.int (σ : Nat)))) o6 o7 o8) (Cf M f) = .ok (.next (LA M lot m g (some (.d (.int (Int.gcd g m : Nat)))) (some (.d (.int (σ : Nat)))) o6' o7' o8')) (Cf M (goL m g σ f (2 * (m / Int.gcd g m)))) := by
  have hd : 0 < Int.gcd g m := Int.gcd_pos_of_ne_zero_left _ (by omega)
  have hdm : (Int.gcd g m : Nat) ∣ m := Int.natCast_dvd_natCast.mp (Int.gcd_dvd_right (a := g) (b := (m : Int)))
  have hd2 : Int.gcd g m ≤ m := Nat.le_of_dvd hm hdm
  have hn2 : m / Int.gcd g m ≤ 1000 := Nat.le_trans (Nat.div_le_self _ _) hm2
  have r0 : ((σ : Nat) : Int) = (rotN m g σ 0 : Nat) := by
    rw [rotN_cast hm]
    simp
    exact (Int.emod_eq_of_lt (by omega) (by omega)).symm
  have q1 : ((m : Nat) : Int) / ((Int.gcd g m : Nat) : Int) = ((m / Int.gcd g m : Nat) : Int) := (Int.natCast_ediv ..).symm
  have b1 := fun M => div_eq (M := M) (show (0 : Int) < (Int.gcd g m : Nat) by omega) (by omega) q1
  have t1 : (2 * ((m / Int.gcd g m : Nat) : Int)).toNat = 2 * (m / Int.gcd g m) := by omega
  obtain ⟨env', M', e, o7', o8', rfl, rfl⟩ := for_pre (φ := fun k : Nat => D.int (k : Int)) (body := LaU2b) (tg := .name 7) (I := fun d env M' => ∃ o7 o8, env = LA M lot m g (some (.d (.int (Int.gcd g m : Nat)))) (some (.d (.int (σ : Nat)))) (some (.d (.int (rotN m g σ d.length : Nat)))) o7 o8 ∧ M' = Cf M (goL m g σ f d.length)) (List.range (2 * (m / Int.gcd g m))) [] (fun d a r e env M' h => by
    obtain ⟨o7, o8, rfl, rfl⟩ := h
    have hl : (goL m g σ f d.length).length = m := by rw [(goL_rl0 m g σ f d.length).1, hf]
    obtain ⟨o8', e2⟩ := lavb_ok (M := M) (lot := lot) (o4 := some (.d (.int (Int.gcd g m : Nat)))) (o5 := some (.d (.int (σ : Nat)))) (o7 := some (.d (.int (a : Nat)))) (o8 := o8) (σ := (σ : Nat)) (i := d.length) hm hm2 hg hg2 hl
    refine ⟨_, _, _, rfl, e2, _, _, by rw [List.length_append, List.length_singleton], by rw [List.length_append, List.length_singleton, goL_succ]⟩) (LA M lot m g (some (.d (.int (Int.gcd g m : Nat)))) (some (.d (.int (σ : Nat)))) (some (.d (.int (σ : Nat)))) o7 o8) (Cf M f) ⟨o7, o8, by rw [List.length_nil, ← r0], rfl⟩
  rw [List.nil_append, List.length_range] at e
  refine ⟨some (.d (.int (rotN m g σ (2 * (m / Int.gcd g m)) : Nat))), o7', o8', el_start ?_⟩
  rw [lau_eq]
  unfold LaUb LaU1 LaU2
  repeat' (first | (wtm_at "mpA") | (with_reducible apply p_bin (b1 _)) | (wtm_at "mp0"))
  rw [t1, rng0]
  refine e_is e ?_
  rfl
theorem lap2b_ok (hf : f.length = m) : ∃ o4' o5' o6' o7' o8', LaP2b (LA M lot m g o4 o5 o6 o7 o8) (Cf M f) = .ok (.next (LA M lot m g o4' o5' o6' o7' o8')) (Cf M (stepL m f g)) ∧ (stepL m f g).length = m := by
  have gc : ∀ M, F_law_gcd [.d (.lst [.int g, .int (m : Nat)])] M = .ok (.d (.int (Int.gcd g m : Nat))) M := fun M => by
    have h := lgcd_ok (c := [g, (m : Int)]) (it_li _) (fun y hy => by
      unfold SmI
      simp only [List.mem_cons, List.not_mem_nil, or_false] at hy
      rcases hy with rfl | rfl <;> omega) (M := M)
    have e : gcdL [g, (m : Int)] = (Int.gcd g m : Nat) := by
      show ((Int.gcd ((Int.gcd 0 g : Nat) : Int) m : Nat) : Int) = _
      rw [Int.gcd_zero_left, show ((g.natAbs : Nat) : Int) = g by omega]
    rw [e] at h
    exact h
  obtain ⟨env', M', e, ⟨o5', o6', o7', o8', rfl⟩, rfl, hl⟩ := for_rngF (body := LaQ2b) (tg := .name 5) (n := Int.gcd g m) (I := fun (s : List (Option Int)) env M' => (∃ o5 o6 o7 o8, env = LA M lot m g (some (.d (.int (Int.gcd g m : Nat)))) o5 o6 o7 o8) ∧ M' = Cf M s ∧ s.length = m) (fun f (σ : Nat) => goL m g σ f (2 * (m / Int.gcd g m))) f (fun i s hi _ env M' h => by
    obtain ⟨⟨o5, o6, o7, o8, rfl⟩, rfl, hl⟩ := h
    obtain ⟨o6', o7', o8', e⟩ := laub_ok (M := M) (lot := lot) (σ := i) (o6 := o6) (o7 := o7) (o8 := o8) hm hm2 hg hg2 hl hi
    exact ⟨_, _, _, rfl, e, ⟨_, _, _, _, rfl⟩, rfl, by rw [(goL_rl0 m g i s _).1]; exact hl⟩) (env := LA M lot m g (some (.d (.int (Int.gcd g m : Nat)))) o5 o6 o7 o8) (M := Cf M f) ⟨⟨_, _, _, _, rfl⟩, rfl, hf⟩
  have hdm : (Int.gcd g m : Nat) ∣ m := Int.natCast_dvd_natCast.mp (Int.gcd_dvd_right (a := g) (b := (m : Int)))
  have hd2 : Int.gcd g m ≤ 1000 := Nat.le_trans (Nat.le_of_dvd hm hdm) hm2
  have rg : ∀ {β : Type} {res : Out β} {q : Itm → Out β}, q ⟨rngL 0 (Int.gcd g m), []⟩ = res → optK (rngItm [.d (.int ((Int.gcd g m : Nat) : Int))]) q = res := fun {β res q} h => o_rngN (by omega) h
  refine ⟨some (.d (.int (Int.gcd g m : Nat))), o5', o6', o7', o8', el_start ?_, hl⟩
  rw [laq_eq]
  unfold LaQb LaQ1 LaQ2
  repeat' (first | (wtm_at "mpA") | (with_reducible apply e_call (gc _)) | (with_reducible refine rg ?_) | (wtm_at "mp0"))
  refine e_is e ?_
  rfl
end
theorem lapery_ok {lot : List Int} {m : Nat} (hm : 0 < m) (hm2 : m ≤ 1000) (hl : ∀ y ∈ lot, 1 ≤ y ∧ y ≤ 1000) {M : Mem} : F_law_apery [.d (ti lot), .d (.int (m : Nat))] M = .ok (.fr ((apL lot m).map oD)) M := by
  have m1 : ∀ M, binop .Mult (opnd M (.fr [.non])) (opnd M (.d (.int ((m : Nat) - 1)))) M = .ok (.fr (List.replicate (m - 1) .non)) M := fun M => by rw [mul_l1 (by omega) (by omega), show (((m : Nat) : Int) - 1).toNat = m - 1 by omega]
  have a1 : ∀ M, binop .Add (opnd M (.fr [.int 0])) (opnd M (.fr (List.replicate (m - 1) .non))) M = .ok (.fr ((ap0 m).map oD)) M := fun M => by
    rw [add_ff (by rw [List.length_replicate]; show 1 + _ ≤ _; omega)]
    unfold ap0
    rw [List.map_cons, List.map_replicate]
    rfl
  obtain ⟨env', M', e, ⟨o3, o4, o5, o6, o7, o8, rfl⟩, rfl, _⟩ := for_mapF (body := LaP2b) (tg := .name 3) (φ := D.int) (I := fun (s : List (Option Int)) env M' => (∃ o3 o4 o5 o6 o7 o8, env = [some (.d (ti lot)), some (.d (.int (m : Nat))), some (.cell M.length), o3, o4, o5, o6, o7, o8]) ∧ M' = Cf M s ∧ s.length = m)
    (stepL m) (ap0 m) lot (fun d a r e env M' h => by
      obtain ⟨⟨o3, o4, o5, o6, o7, o8, rfl⟩, rfl, hf⟩ := h
      have ha : a ∈ lot := by rw [e]; exact List.mem_append_right _ List.mem_cons_self
      have hb := hl a ha
      obtain ⟨o4', o5', o6', o7', o8', e2, hl2⟩ := lap2b_ok (M := M) (lot := lot) (o4 := o4) (o5 := o5) (o6 := o6) (o7 := o7) (o8 := o8) hm hm2 (show 0 < a by omega) hb.2 hf
      exact ⟨_, _, _, rfl, e2, ⟨some (.d (.int a)), _, _, _, _, _, rfl⟩, rfl, hl2⟩) (env := [some (.d (ti lot)), some (.d (.int (m : Nat))), some (.cell M.length), none, none, none, none, none, none]) (M := Cf M (ap0 m)) ⟨⟨_, _, _, _, _, _, rfl⟩, rfl, by unfold ap0; rw [List.length_cons, List.length_replicate]; omega⟩
  unfold F_law_apery
  refine e_fn rfl ?_
  rw [T_law_apery_eq]
  unfold LaP1 LaP2
  repeat' (first | (wtm_at "mpA") | (with_reducible apply p_bin (m1 _)) | (with_reducible apply p_bin (a1 _)) | (wtm_at "mp1"))
  refine e_is e ?_
  unfold LaP3
  repeat' (first | (wtm_at "mpA") | (wtm_at "mp1"))
  exact r_c

theorem oD_ints (A : List Int) : (A.map some).map oD = A.map D.int := by
  rw [List.map_map]
  rfl
structure LotA (lot : List Int) (m : Nat) (A : List Int) : Prop where
  pos : PosL lot
  hm : 0 < m
  hm2 : m ≤ 1000
  hd : lot.head? = some (m : Int)
  len : lot.length ≤ 12
  bd : ∀ y ∈ lot, 1 ≤ y ∧ y ≤ 1000
  asc : lot.Pairwise (· < ·)
  ap : ApI lot m A
  p : ∀ M, Fapery_of [.d (ti lot), .d (.int (m : Nat))] M = .ok (.fr (A.map .int)) M
  l : ∀ M, F_law_apery [.d (ti lot), .d (.int (m : Nat))] M = .ok (.fr (A.map .int)) M
  is : ∀ M, Fis_lot [.d (ti lot)] M = .ok (.d (.bl true)) M
theorem lot_a {lot : List Int} (h : lotC lot = true) : ∃ m A, LotA lot m A := by
  obtain ⟨h0, h1, h2, h3, h4, h5⟩ := lotC_facts h
  match lot, h0 with
  | x :: r, _ =>
    have hx := h2 x List.mem_cons_self
    obtain ⟨m, rfl⟩ : ∃ m : Nat, x = m := ⟨x.toNat, (Int.toNat_of_nonneg (by omega)).symm⟩
    have hp : PosL ((m : Int) :: r) := fun y hy => by have := h2 y hy; omega
    have hm : 0 < m := by omega
    obtain ⟨A, e, a⟩ := ap_ints hm hp h4 (apP_ap hm hp)
    exact ⟨m, A, hp, hm, by omega, rfl, h1, h2, h3, a, fun M => by rw [apery_ok hm (by omega) h2, e, oD_ints], fun M => by rw [lapery_ok hm (by omega) h2, ← ap_same hm hp, e, oD_ints], fun M => by rw [islot_ok (by omega), h]⟩
theorem maxI_eq (c : List Int) : maxI c = maxLs c := by
  cases c with
  | nil => rfl
  | cons x r => exact (maxL_fold r x).symm
section
variable {lot : List Int} {m : Nat} {A : List Int} (H : LotA lot m A)
include H
theorem LotA.mem : (m : Int) ∈ lot := List.mem_of_mem_head? H.hd
theorem LotA.gen : Gen lot m := .of_mem H.mem
theorem LotA.cnd : Cnd lot (condA m A) := H.ap.cnd H.hm H.gen H.pos
theorem LotA.i0 (M : Mem) : idx (.d (ti lot)) (.d (.int 0)) M = .ok (.d (.int (m : Nat))) M := by
  have h := H.hd
  cases lot with
  | nil => cases h
  | cons x r => cases h; exact idx_head
theorem LotA.mx (M : Mem) : maxOp2 [.d (.lst (A.map .int))] M = .ok (.d (.int (maxLs A))) M := by rw [max_lst (H.ap.ne H.hm), maxI_eq]
theorem cond_ok {M : Mem} : Fconductor_of_lot [.d (ti lot)] M = .ok (.d (.int (condA m A))) M := by
  unfold Fconductor_of_lot
  refine e_fn rfl ?_
  unfold Tconductor_of_lot
  repeat' (first | (wtm_at "mpA") | (with_reducible apply p_idx (H.i0 _)) | (with_reducible apply e_call (H.p _)) | (with_reducible apply e_call (H.mx _)) | (wtm_at "mp1"))
theorem lcond_ok {M : Mem} : F_law_lot_conductor [.d (ti lot)] M = .ok (.d (.int (condA m A))) M := by
  unfold F_law_lot_conductor
  refine e_fn rfl ?_
  unfold T_law_lot_conductor
  repeat' (first | (wtm_at "mpA") | (with_reducible apply p_idx (H.i0 _)) | (with_reducible apply e_call (H.l _)) | (with_reducible apply e_call (H.mx _)) | (wtm_at "mp1"))
theorem check_ok {M : Mem} : Fcheck_lot [.d (ti lot)] M = .ok (.d .non) M := by
  unfold Fcheck_lot
  refine e_fn rfl ?_
  unfold Tcheck_lot
  repeat' (first | (wtm_at "mpA") | (with_reducible apply e_call (H.is _)) | (wtm_at "mp1"))
theorem genus_ok {M : Mem} : Fgenus_of_lot [.d (ti lot)] M = .ok (.d (.int (gapN lot (condA m A).toNat))) M := by
  have h0 := H.hm
  have h2 := H.hm2
  have g := genus_eq H.ap H.hm H.gen H.pos (N := (condA m A).toNat) (by have := H.cnd.nn; omega)
  have b1 := fun M => div_eq (M := M) (show (0 : Int) < 2 * (m : Nat) by omega) (by omega) g
  have mm : ∀ M, binop .Mult (opnd M (.d (.int (m : Nat)))) (opnd M (.d (.int ((m : Nat) - 1)))) M = .ok (.d (.int ((m : Int) * ((m : Int) - 1)))) M := fun M => by
    show guard (mulOk _ _) (Out.ok (AV.d (.int ((m : Int) * ((m : Int) - 1)))) M) = _
    unfold guard
    rw [if_pos (mul_l (by omega) (by omega))]
  unfold Fgenus_of_lot
  refine e_fn rfl ?_
  unfold Tgenus_of_lot
  repeat' (first | (wtm_at "mpA") | (with_reducible apply p_idx (H.i0 _)) | (with_reducible apply e_call (H.p _)) | (with_reducible apply e_call sum_ints) | (with_reducible apply p_bin (mm _)) | (with_reducible apply p_bin (b1 _)) | (wtm_at "mp1"))
end
theorem fold_filter {α β : Type} (p : α → Bool) (g : α → β) : ∀ (l : List α) (s : List β), l.foldl (fun s w => if p w = true then s ++ [g w] else s) s = s ++ (l.filter p).map g
  | [], s => by simp
  | w :: l, s => by
    rw [List.foldl_cons, fold_filter p g l, List.filter_cons]
    split
    · rw [List.map_cons, List.append_assoc, List.singleton_append]
    · rfl

def Su1 : SS :=
 (sAsg 2 true (sBin .Add (sLst (sCons (sCon (.bl true)) sNil)) (sBin .Mult (sLst (sCons (sCon (.bl false)) sNil)) (sVar 1))))
def Su2b : SS :=
 (sSeq2 (sSetI (sVar 2) (sVar 3) (sArgs anyOp (sCons (sComp (sSeq (sVar 0)) (.name 4) sYes (sAnd (sCmp .LtE (sVar 4) (sVar 3)) (sIdx (sVar 2) (sBin .Sub (sVar 3) (sVar 4)))) (([("g", 4)] : List (Str × Nat)).map (·.2))) sNil)))
 sSkip)
def Su2 : SS := sFor (sRng (sCons (sCon (.int 1)) (sCons (sBin .Add (sVar 1) (sCon (.int 1))) sNil))) (.name 3) Su2b
def Su3 : SS :=
 (sRet (sVar 2))
theorem T_law_lot_sums_eq : T_law_lot_sums = (sSeq2 Su1 (sSeq2 Su2 (sSeq2 Su3 sSkip))) := rfl
/-! _law_lot_sums -/
noncomputable def sumM (L : List Int) (n j : Nat) : List D := (List.range (n + 1)).map fun k : Nat => D.bl (decide (k < j) && genB L (k : Int))
theorem sumM_len (L : List Int) (n j : Nat) : (sumM L n j).length = n + 1 := by unfold sumM; rw [List.length_map, List.length_range]
theorem sumM_get (L : List Int) {n j k : Nat} (h : k ≤ n) : (sumM L n j)[k]? = some (.bl (decide (k < j) && genB L (k : Int))) := by
  unfold sumM
  rw [List.getElem?_map, List.getElem?_eq_getElem (by rw [List.length_range]; omega), List.getElem_range]
  rfl
theorem sumM_one (L : List Int) (n : Nat) : sumM L n 1 = .bl true :: List.replicate n (.bl false) := by
  unfold sumM
  rw [List.range_succ_eq_map, List.map_cons, List.map_map]
  congr 1
  · rw [show ((0 : Nat) : Int) = 0 from rfl, genB_zero]
    rfl
  · refine List.eq_replicate_iff.mpr ⟨by rw [List.length_map, List.length_range], fun b hb => ?_⟩
    obtain ⟨k, _, rfl⟩ := List.mem_map.mp hb
    show D.bl (decide (k + 1 < 1) && _) = _
    rw [decide_eq_false (by omega), Bool.false_and]
theorem sumM_end (L : List Int) (n : Nat) : sumM L n (n + 1) = heldL L n := by
  unfold sumM heldL
  refine List.map_congr_left fun k hk => ?_
  rw [decide_eq_true (List.mem_range.mp hk), Bool.true_and]
theorem sumM_set {L : List Int} {n j : Nat} (hj : j ≤ n) : (sumM L n j).set j (.bl (genB L (j : Int))) = sumM L n (j + 1) := by
  refine List.ext_getElem? fun k => ?_
  by_cases hk : k ≤ n
  · rw [sumM_get _ hk]
    by_cases e : j = k
    · subst e
      rw [List.getElem?_set_self (by rw [sumM_len]; omega), decide_eq_true (by omega), Bool.true_and]
    · rw [List.getElem?_set_ne e, sumM_get _ hk]
      by_cases h : k < j
      · rw [decide_eq_true h, decide_eq_true (by omega)]
      · rw [decide_eq_false h, decide_eq_false (by omega)]
  · rw [List.getElem?_eq_none (by rw [List.length_set, sumM_len]; omega), List.getElem?_eq_none (by rw [sumM_len]; omega)]
section
variable {lot : List Int} {n : Nat} {M : Mem} (hp : PosL lot) (hl : lot.length ≤ 1000)
include hp hl
theorem sub_ok {j : Nat} (h1 : 1 ≤ j) (hj : j ≤ n) {o4 : Option AV} : Su2b [some (.d (ti lot)), some (.d (.int (n : Nat))), some (.cell M.length), some (.d (.int (j : Nat))), o4] (M ++ [some (.l (sumM lot n j))]) = .ok (.next [some (.d (ti lot)), some (.d (.int (n : Nat))), some (.cell M.length), some (.d (.int (j : Nat))), o4]) (M ++ [some (.l (sumM lot n (j + 1)))]) := by
  have v : (sArgs anyOp (sCons (sComp (sSeq (sVar 0)) (.name 4) sYes (sAnd (sCmp .LtE (sVar 4) (sVar 3)) (sIdx (sVar 2) (sBin .Sub (sVar 3) (sVar 4)))) (([("g", 4)] : List (Str × Nat)).map (·.2))) sNil)) [some (.d (ti lot)), some (.d (.int (n : Nat))), some (.cell M.length), some (.d (.int (j : Nat))), o4] (M ++ [some (.l (sumM lot n j))]) = .ok (.d (.bl (genB lot (j : Int)))) (M ++ [some (.l (sumM lot n j))]) := by
    refine el_start ?_
    repeat' (first | (wtm_at "mpA") | (wtm_at "mp0"))
    refine e_compA (φ := D.int) lot (fun g => .bl (decide (g ≤ (j : Int)) && genB lot ((j : Int) - g))) (fun g hg => ⟨_, rfl, .d (.bl (decide (g ≤ (j : Int)) && genB lot ((j : Int) - g))), el_start ?_, rfl⟩) (by omega) ?_
    · have h0 := hp g hg
      by_cases h : g ≤ (j : Int)
      · have i1 : idx (.cell M.length) (.d (.int ((j : Nat) - g))) (M ++ [some (.l (sumM lot n j))]) = .ok (.d (.bl (genB lot ((j : Int) - g)))) (M ++ [some (.l (sumM lot n j))]) := by
          refine idx_cell last_get (atI_int (by omega) ?_)
          rw [sumM_get _ (by omega), decide_eq_true (by omega), Bool.true_and, Int.toNat_of_nonneg (by omega)]
        rw [decide_eq_true h, Bool.true_and]
        repeat' (first | (wtm_at "mpA") | (with_reducible apply p_idx i1) | (wtm_at "mp1"))
        rfl
      · rw [decide_eq_false h, Bool.false_and]
        repeat' (first | (wtm_at "mpA") | (wtm_at "mp1"))
        rfl
    · have e : lot.map (fun g => D.bl (decide (g ≤ (j : Int)) && genB lot ((j : Int) - g))) = (lot.map fun g => decide (g ≤ (j : Int)) && genB lot ((j : Int) - g)).map .bl := by rw [List.map_map]; rfl
      have e2 : (lot.map fun g => decide (g ≤ (j : Int)) && genB lot ((j : Int) - g)).any id = genB lot (j : Int) := by rw [genB_rec hp (by omega), List.any_map]; rfl
      rw [e]
      repeat' (first | (wtm_at "mpA") | (with_reducible apply e_call any_bls) | (wtm_at "mp1"))
      rw [e2]
  have s := setI_eq (fo := sVar 2) (fi := sVar 3) (env := [some (.d (ti lot)), some (.d (.int (n : Nat))), some (.cell M.length), some (.d (.int (j : Nat))), o4]) (M := M ++ [some (.l (sumM lot n j))]) (c := M.length) (i := (j : Nat)) rfl rfl v last_get ⟨by omega, by rw [sumM_len]; omega⟩
  rw [Int.toNat_natCast, sumM_set hj, last_set] at s
  refine el_start ?_
  unfold Su2b
  refine e_stmt s ?_
  rfl
theorem sums_ok (hn : n ≤ 900000) : F_law_lot_sums [.d (ti lot), .d (.int (n : Nat))] M = .ok (.fr (heldL lot n)) M := by
  have m1 : ∀ M, binop .Mult (opnd M (.fr [.bl false])) (opnd M (.d (.int (n : Nat)))) M = .ok (.fr (List.replicate n (.bl false))) M := fun M => by rw [mul_l1 (by omega) (by omega), Int.toNat_natCast]
  have a1 : ∀ M, binop .Add (opnd M (.fr [.bl true])) (opnd M (.fr (List.replicate n (.bl false)))) M = .ok (.fr (sumM lot n 1)) M := fun M => by
    rw [sumM_one]
    exact add_ff (by rw [List.length_replicate]; show 1 + _ ≤ _; omega)
  obtain ⟨env', M', e, ⟨o3, o4, rfl⟩, rfl⟩ := for_pre (φ := fun k : Nat => D.int (1 + (k : Nat))) (body := Su2b) (tg := .name 3) (I := fun d env M' => (∃ o3 o4, env = [some (.d (ti lot)), some (.d (.int (n : Nat))), some (.cell M.length), o3, o4]) ∧ M' = M ++ [some (.l (sumM lot n (d.length + 1)))]) (List.range n) [] (fun d a r e env M' h => by
    obtain ⟨⟨o3, o4, rfl⟩, rfl⟩ := h
    obtain ⟨rfl, hd⟩ := rng_at (show List.range n = d ++ a :: r by rw [← e]; rfl)
    refine ⟨_, _, _, rfl, ?_, ⟨some (.d (.int ((d.length + 1 : Nat) : Int))), o4, rfl⟩, by rw [List.length_append, List.length_singleton]⟩
    rw [show (1 : Int) + (d.length : Nat) = ((d.length + 1 : Nat) : Int) by omega]
    exact sub_ok hp hl (by omega) (by omega)) [some (.d (ti lot)), some (.d (.int (n : Nat))), some (.cell M.length), none, none] (M ++ [some (.l (sumM lot n 1))]) ⟨⟨_, _, rfl⟩, rfl⟩
  rw [List.nil_append, List.length_range, sumM_end] at e
  have rg : ∀ {β : Type} {res : Out β} {q : Itm → Out β}, q ⟨rngL 1 n, []⟩ = res → optK (rngItm [.d (.int 1), .d (.int ((n : Nat) + 1))]) q = res := fun {β res q} h => by
    refine o_rng2 (by omega) (by omega) ?_
    rw [show ((n : Nat) : Int) + 1 - 1 = ((n : Nat) : Int) by omega, Int.toNat_natCast]
    exact h
  unfold F_law_lot_sums
  refine e_fn rfl ?_
  rw [T_law_lot_sums_eq]
  unfold Su1 Su2 Su3
  repeat' (first | (wtm_at "mpA") | (with_reducible apply p_bin (m1 _)) | (with_reducible apply p_bin (a1 _)) | (with_reducible refine rg ?_) | (wtm_at "mp1"))
  refine e_is e ?_
  repeat' (first | (wtm_at "mpA") | (wtm_at "mp1"))
end
/-! the size of the least members -/
def BdA (f : List (Option Int)) (B : Int) : Prop := ∀ (r : Nat) (w : Int), f[r]? = some (some w) → w ≤ B
theorem BdA.mono {f : List (Option Int)} {B C : Int} (h : BdA f B) (k : B ≤ C) : BdA f C := fun r w e => Int.le_trans (h r w e) k
theorem relF_bd {g : Int} (hg : 0 ≤ g) {f : List (Option Int)} {r s : Nat} {B : Int} (h : BdA f B) : BdA (relF g f r s) (B + g) := by
  have key : ∀ a, f[r]? = some (some a) → BdA (f.set s (some (a + g))) (B + g) := fun a ha r' w e => by
    rw [List.getElem?_set] at e
    split at e
    · split at e
      · cases e
        have := h r a ha
        omega
      · cases e
    · have := h r' w e
      omega
  unfold relF
  split
  · rename_i a ha
    split
    · exact key a ha
    · split
      · exact key a ha
      · exact h.mono (by omega)
    · exact h.mono (by omega)
  · exact h.mono (by omega)
theorem goL_bd {m : Nat} {g σ : Int} (hg : 0 ≤ g) {f : List (Option Int)} {B : Int} (h : BdA f B) : ∀ n : Nat, BdA (goL m g σ f n) (B + (n : Int) * g)
  | 0 => by rw [show B + ((0 : Nat) : Int) * g = B by simp]; exact h
  | n + 1 => by
    rw [goL_succ, show B + ((n + 1 : Nat) : Int) * g = B + (n : Int) * g + g by rw [Int.natCast_add, Int.add_mul]; simp; omega]
    exact relF_bd hg (goL_bd hg h n)
theorem fold_bd {F : List (Option Int) → Nat → List (Option Int)} {t : Int} (st : ∀ f x B, BdA f B → BdA (F f x) (B + t)) : ∀ (l : List Nat) (f : List (Option Int)) (B : Int), BdA f B → BdA (l.foldl F f) (B + (l.length : Int) * t)
  | [], f, B, h => by rw [show B + (([] : List Nat).length : Int) * t = B by simp]; exact h
  | x :: l, f, B, h => by
    have := fold_bd st l (F f x) (B + t) (st f x B h)
    rw [List.foldl_cons, show B + ((x :: l).length : Int) * t = B + t + (l.length : Int) * t by rw [List.length_cons, Int.natCast_add, Int.add_mul]; simp; omega]
    exact this
theorem stepL_bd {m : Nat} {g : Int} (hm : 0 < m) (hg : 0 < g) {f : List (Option Int)} {B : Int} (h : BdA f B) : BdA (stepL m f g) (B + 2 * (m : Int) * g) := by
  have hdm : (Int.gcd g m : Nat) ∣ m := Int.natCast_dvd_natCast.mp (Int.gcd_dvd_right (a := g) (b := (m : Int)))
  have := fold_bd (F := fun f (σ : Nat) => goL m g σ f (2 * (m / Int.gcd g m))) (t := ((2 * (m / Int.gcd g m) : Nat) : Int) * g) (fun f σ B h => goL_bd (by omega) h _) (List.range (Int.gcd g m)) f B h
  rw [List.length_range, ← Int.mul_assoc, ← Int.natCast_mul, show Int.gcd g m * (2 * (m / Int.gcd g m)) = 2 * m by rw [Nat.mul_left_comm, Nat.mul_div_cancel' hdm]] at this
  exact this
theorem apL_bd {m : Nat} (hm : 0 < m) : ∀ (lot : List Int) (f : List (Option Int)) (B : Int), PosL lot → BdA f B → BdA (lot.foldl (stepL m) f) (B + 2 * (m : Int) * lot.sum)
  | [], f, B, _, h => by rw [List.sum_nil, Int.mul_zero, Int.add_zero]; exact h
  | g :: r, f, B, hp, h => by
    have := apL_bd hm r (stepL m f g) _ (fun y hy => hp y (.tail _ hy)) (stepL_bd hm (hp g List.mem_cons_self) h)
    rw [List.sum_cons, Int.mul_add, ← Int.add_assoc]
    exact this
theorem sum_le {B : Int} : ∀ c : List Int, (∀ y ∈ c, y ≤ B) → c.sum ≤ c.length * B
  | [], _ => by simp
  | x :: r, h => by
    have h1 := h x List.mem_cons_self
    have h2 := sum_le r fun y hy => h y (.tail _ hy)
    rw [List.sum_cons, List.length_cons, Int.natCast_add, Int.add_mul]
    simp
    omega
theorem cond_bd {lot : List Int} {m : Nat} {A : List Int} (H : LotA lot m A) : condA m A ≤ 2 * (m : Int) * lot.sum + 1 := by
  obtain ⟨A2, e, a2⟩ := ap_ints (f := apL lot m) H.hm H.pos (by
    have := H.is []
    rw [islot_ok (by have := H.len; omega)] at this
    have h1 : lotC lot = true := by
      injection this with h1
      injection h1 with h1
      injection h1
    exact (lotC_facts h1).2.2.2.2.1) (apL_ap H.hm H.pos)
  have hb : BdA (apL lot m) (0 + 2 * (m : Int) * lot.sum) := apL_bd H.hm lot (ap0 m) 0 H.pos fun r w h => by
    unfold ap0 at h
    cases r with
    | zero => cases h; exact Int.le_refl 0
    | succ r =>
      rw [List.getElem?_cons_succ, List.getElem?_replicate] at h
      split at h
      · cases h
      · cases h
  have hA : A = A2 := by
    have := H.l []
    rw [lapery_ok H.hm H.hm2 H.bd, e, oD_ints] at this
    injection this with h1
    injection h1 with h1
    have inj : ∀ a b : List Int, a.map D.int = b.map D.int → a = b := fun a b h => by
      have := congrArg (List.map fun d : D => match d with | .int i => i | _ => 0) h
      rw [List.map_map, List.map_map] at this
      have idm : ∀ c : List Int, c.map ((fun d : D => match d with | .int i => i | _ => 0) ∘ D.int) = c := fun c => by
        induction c with
        | nil => rfl
        | cons x r ih => rw [List.map_cons, ih]; rfl
      rw [idm, idm] at this
      exact this
    exact (inj _ _ h1).symm
  subst hA
  obtain ⟨r, hr, e2⟩ := mem_getD (maxLs_facts (H.ap.ne H.hm)).1
  have h3 : (apL lot m)[r]? = some (some (maxLs A)) := by
    rw [e, List.getElem?_map, ← e2, List.getD_eq_getElem?_getD, List.getElem?_eq_getElem hr]
    rfl
  have := hb r _ h3
  unfold condA
  have := H.hm
  omega

/-! the counts of a lot: the plain theory -/
noncomputable def cntN (L : List Int) (n : Nat) : Int := sg n fun k => bI (genB L (k : Int))
noncomputable def cntL (L : List Int) (N : Nat) : List Int := (List.range (N + 1)).map fun k => cntN L k
def cntW (m : Nat) (n w : Int) : Int := if w < n then (n - 1 - w) / m + 1 else 0
theorem cntL_len (L : List Int) (N : Nat) : (cntL L N).length = N + 1 := by unfold cntL; rw [List.length_map, List.length_range]
theorem cntL_get (L : List Int) {N k : Nat} (h : k ≤ N) : (cntL L N).getD k 0 = cntN L k := by
  unfold cntL
  rw [List.getD_eq_getElem?_getD, List.getElem?_map, List.getElem?_eq_getElem (by rw [List.length_range]; omega), List.getElem_range]
  rfl
theorem cntN_zero (L : List Int) : cntN L 0 = 0 := rfl
theorem cntN_succ (L : List Int) (n : Nat) : cntN L (n + 1) = cntN L n + bI (genB L (n : Int)) := sg_succ _ _
theorem cntN_len (L : List Int) : ∀ n : Nat, (((List.range n).filter fun k : Nat => genB L (k : Int)).length : Int) = cntN L n
  | 0 => rfl
  | n + 1 => by
    rw [List.range_succ, List.filter_append, List.length_append, Int.natCast_add, cntN_len L n, cntN_succ]
    congr 1
    rw [List.filter_cons]
    unfold bI
    split
    · rfl
    · rfl
theorem cntW_step {m : Nat} (hm : 0 < m) (w n : Int) : cntW m (n + 1) w = cntW m n w + bI (decide (w ≤ n) && decide (n % m = w % m)) := by
  have hm' : (0 : Int) < m := by omega
  unfold cntW bI
  by_cases h1 : w < n
  · rw [if_pos h1, if_pos (show w < n + 1 by omega), decide_eq_true (show w ≤ n by omega), Bool.true_and]
    have h2 := Int.mul_ediv_add_emod (n - w) m
    have h3 := Int.emod_nonneg (n - w) (show (m : Int) ≠ 0 by omega)
    have h4 := Int.emod_lt_of_pos (n - w) hm'
    rw [show n + 1 - 1 - w = n - w by omega]
    by_cases e : n % (m : Int) = w % m
    · have e0 : (n - w) % (m : Int) = 0 := Int.emod_eq_emod_iff_emod_sub_eq_zero.mp e
      rw [decide_eq_true e, if_pos rfl]
      have u : (n - 1 - w) / (m : Int) = (n - w) / m - 1 := by
        have := Int.ediv_emod_unique (a := n - 1 - w) (r := m - 1) (q := (n - w) / m - 1) hm'
        refine (this.mpr ⟨?_, by omega, by omega⟩).1
        rw [Int.mul_sub, Int.mul_one]
        omega
      rw [u]
      omega
    · have e0 : (n - w) % (m : Int) ≠ 0 := fun h => e (Int.emod_eq_emod_iff_emod_sub_eq_zero.mpr h)
      rw [decide_eq_false e, if_neg (by decide)]
      have u : (n - 1 - w) / (m : Int) = (n - w) / m := by
        have := Int.ediv_emod_unique (a := n - 1 - w) (r := (n - w) % m - 1) (q := (n - w) / m) hm'
        exact (this.mpr ⟨by omega, by omega, by omega⟩).1
      rw [u]
      omega
  · by_cases h2 : w = n
    · subst h2
      rw [if_neg h1, if_pos (by omega), decide_eq_true (show w ≤ w by omega), decide_eq_true rfl, show w + 1 - 1 - w = 0 by omega, Int.zero_ediv]
      rfl
    · rw [if_neg h1, if_neg (show ¬ w < n + 1 by omega), decide_eq_false (show ¬ w ≤ n by omega)]
      rfl
theorem cnt_ap {L : List Int} {m : Nat} {A : List Int} (a : ApI L m A) (hm : 0 < m) (hg : Gen L m) (hp : PosL L) : ∀ n : Nat, (A.map (cntW m n)).sum = cntN L n := by
  have toS : ∀ n : Int, (A.map (cntW m n)).sum = sg m fun r => cntW m n (A.getD r 0) := fun n => by
    rw [sum_getD, List.length_map, a.len]
    refine sg_congr fun r hr => ?_
    rw [List.getD_eq_getElem?_getD, List.getD_eq_getElem?_getD, List.getElem?_map, List.getElem?_eq_getElem (by rw [a.len]; exact hr)]
    rfl
  intro n
  induction n with
  | zero =>
    rw [toS, cntN_zero, sg_congr (g := fun _ => 0) fun r hr => ?_, sg_nil]
    have := a.nn hp hr
    unfold cntW
    rw [if_neg (by omega)]
  | succ n ih =>
    rw [toS] at ih ⊢
    have hr : n % m < m := Nat.mod_lt _ hm
    rw [sg_congr (g := fun r => cntW m n (A.getD r 0) + if r = n % m then bI (genB L (n : Int)) else 0) fun r hr => ?_, sg_add, ih, sg_one hr, cntN_succ]
    rw [show ((n + 1 : Nat) : Int) = (n : Int) + 1 by omega, cntW_step hm, (a.mem r hr).2]
    congr 1
    have h := a.holds hm hg (k := n)
    rw [← Int.natCast_emod, Int.toNat_natCast] at h
    by_cases e : r = n % m
    · subst e
      rw [if_pos rfl, ← Int.natCast_emod, decide_eq_true rfl, Bool.and_true]
      congr 1
      cases hgn : genB L (n : Int) with
      | true => exact decide_eq_true (h.mp (genB_iff.mp hgn))
      | false => exact decide_eq_false fun x => by rw [genB_iff.mpr (h.mpr x)] at hgn; cases hgn
    · rw [if_neg e, decide_eq_false (show ¬ (n : Int) % (m : Int) = ((r : Nat) : Int) from fun x => by rw [← Int.natCast_emod] at x; omega), Bool.and_false]
      rfl
theorem foldl_sum {α : Type} (g : α → Int) : ∀ (l : List α) (s : Int), l.foldl (fun s w => s + g w) s = s + (l.map g).sum
  | [], s => by simp
  | w :: l, s => by rw [List.foldl_cons, foldl_sum g l, List.map_cons, List.sum_cons]; omega
theorem cntN_mono (L : List Int) (n : Nat) : 0 ≤ cntN L n ∧ cntN L n ≤ n := by
  induction n with
  | zero => rw [cntN_zero]; omega
  | succ n ih =>
    rw [cntN_succ]
    unfold bI
    split <;> omega
/-- the least sum over all ways to part k -/
def convI (f g : List Int) (N : Nat) : List Int := (List.range (N + 1)).map fun k => minI ((List.range (k + 1)).map fun i => f.getD i 0 + g.getD (k - i) 0)
noncomputable def jointI (lots : List (List Int)) (N : Nat) : List Int := lots.tail.foldl (fun f l => convI f (cntL l N) N) (cntL (lots.headD []) N)
theorem convI_len (f g : List Int) (N : Nat) : (convI f g N).length = N + 1 := by unfold convI; rw [List.length_map, List.length_range]
theorem conv_fold_len (N : Nat) : ∀ (lots : List (List Int)) (f : List Int), f.length = N + 1 → (lots.foldl (fun f l => convI f (cntL l N) N) f).length = N + 1
  | [], f, h => h
  | l :: r, f, h => by rw [List.foldl_cons]; exact conv_fold_len N r _ (convI_len _ _ _)

/-! holds, lot_holds, lot_apery, lot_conductor, lot_genus -/
theorem chk_bad {d : D} (h : ∀ M, Fis_lot [.d d] M = .ok (.d (.bl false)) M) {M : Mem} : Fcheck_lot [.d d] M = .exc ⟨"Malformed", []⟩ M := by
  unfold Fcheck_lot
  refine e_fn rfl ?_
  unfold Tcheck_lot
  repeat' (first | (wtm_at "mpA") | (with_reducible apply e_call (h _)) | (wtm_at "mp1"))
section
variable {lot : List Int} {m : Nat} {A : List Int} (H : LotA lot m A)
include H
theorem gen_modI (k : Int) : decide (A.getD (k % (m : Nat)).toNat 0 ≤ k) = genB lot k := by
  have h := H.ap.holds H.hm H.gen (k := k)
  cases e : genB lot k with
  | true => exact decide_eq_true (h.mp (genB_iff.mp e))
  | false => exact decide_eq_false fun x => by rw [genB_iff.mpr (h.mpr x)] at e; cases e
theorem A_len : A.length = m := H.ap.len
theorem holds_ok {k : Int} {M : Mem} : Fholds [.d (ti lot), .d (.int k)] M = .ok (.d (.bl (genB lot k))) M := by
  have hm := H.hm
  have hm2 := H.hm2
  have hl := A_len H
  have r0 := Int.emod_nonneg k (show ((m : Nat) : Int) ≠ 0 by omega)
  have r1 := Int.emod_lt_of_pos k (show (0 : Int) < (m : Nat) by omega)
  have i1 : ∀ M, idx (.fr (A.map .int)) (.d (.int (k % (m : Nat)))) M = .ok (.d (.int (A.getD (k % m).toNat 0))) M := fun M => by
    have h : idx (.d (.lst (A.map .int))) (.d (.int (k % (m : Nat)))) M = .ok (.d (.int (A.getD (k % m).toNat 0))) M := idx_li r0 (by omega)
    exact h
  unfold Fholds
  refine e_fn rfl ?_
  unfold Tholds
  by_cases hk : 0 ≤ k
  · rw [← gen_modI H]
    repeat' (first | (wtm_at "mpA") | (with_reducible apply p_idx (H.i0 _)) | (with_reducible apply e_call (H.p _)) | (with_reducible apply p_idx (i1 _)) | (wtm_at "mp1"))
  · rw [genB_neg H.pos (by omega)]
    repeat' (first | (wtm_at "mpA") | (wtm_at "mp1"))
theorem lholds_ok {k : Int} {M : Mem} : Flot_holds [.d (ti lot), .d (.int k)] M = .ok (.d (.bl (genB lot k))) M := by
  have c := fun M => check_ok H (M := M)
  have h := fun M => holds_ok H (k := k) (M := M)
  unfold Flot_holds
  refine e_fn rfl ?_
  unfold Tlot_holds
  repeat' (first | (wtm_at "mpA") | (with_reducible apply e_call (c _)) | (with_reducible apply e_call isint) | (with_reducible apply e_call (h _)) | (wtm_at "mp1"))
theorem lholds_no {d : D} (hf : ∀ x, d ≠ .fn x) (hi : isI d = false) {M : Mem} : Flot_holds [.d (ti lot), .d d] M = .exc ⟨"Malformed", []⟩ M := by
  have c := fun M => check_ok H (M := M)
  have e : ∀ M, Fis_integer [.d d] M = .ok (.d (.bl false)) M := fun M => by rw [isintD d hf, hi]
  unfold Flot_holds
  refine e_fn rfl ?_
  unfold Tlot_holds
  repeat' (first | (wtm_at "mpA") | (with_reducible apply e_call (c _)) | (with_reducible apply e_call (e _)) | (wtm_at "mp1"))
theorem lcon_ok {M : Mem} : Flot_conductor [.d (ti lot)] M = .ok (.d (.int (condA m A))) M := by
  have c := fun M => check_ok H (M := M)
  have h := fun M => cond_ok H (M := M)
  unfold Flot_conductor
  refine e_fn rfl ?_
  unfold Tlot_conductor
  repeat' (first | (wtm_at "mpA") | (with_reducible apply e_call (c _)) | (with_reducible apply e_call (h _)) | (wtm_at "mp1"))
theorem lgen_ok {M : Mem} : Flot_genus [.d (ti lot)] M = .ok (.d (.int (gapN lot (condA m A).toNat))) M := by
  have c := fun M => check_ok H (M := M)
  have h := fun M => genus_ok H (M := M)
  unfold Flot_genus
  refine e_fn rfl ?_
  unfold Tlot_genus
  repeat' (first | (wtm_at "mpA") | (with_reducible apply e_call (c _)) | (with_reducible apply e_call (h _)) | (wtm_at "mp1"))
theorem ap_row {k : Nat} (hc : lotC lot = true) (hk : 0 < k) (hk2 : k ≤ 1000) : ∃ B : List Int, ApI lot k B ∧ (∀ M, Fapery_of [.d (ti lot), .d (.int (k : Nat))] M = .ok (.fr (B.map .int)) M) ∧ (∀ M, F_law_apery [.d (ti lot), .d (.int (k : Nat))] M = .ok (.fr (B.map .int)) M) := by
  obtain ⟨h0, h1, h2, h3, h4, h5⟩ := lotC_facts hc
  obtain ⟨B, e, a⟩ := ap_ints hk H.pos h4 (apP_ap hk H.pos)
  exact ⟨B, a, fun M => by rw [apery_ok hk (by omega) h2, e, oD_ints], fun M => by rw [lapery_ok hk (by omega) h2, ← ap_same hk H.pos, e, oD_ints]⟩
theorem lap_ok {k : Nat} {B : List Int} (hb : ∀ M, Fapery_of [.d (ti lot), .d (.int (k : Nat))] M = .ok (.fr (B.map .int)) M) (hk : 0 < k) (hk2 : k ≤ 1000) (hg : genB lot (k : Int) = true) {M : Mem} : Flot_apery [.d (ti lot), .d (.int (k : Nat))] M = .ok (.d (ti B)) M := by
  have c := fun M => check_ok H (M := M)
  have h := fun M => holds_ok H (k := (k : Nat)) (M := M)
  rw [hg] at h
  have k1 : (1 : Int) ≤ (k : Nat) := by omega
  have k2 : ((k : Nat) : Int) ≤ 1000 := by omega
  unfold Flot_apery
  refine e_fn rfl ?_
  unfold Tlot_apery
  repeat' (first | (wtm_at "mpA") | (with_reducible apply e_call (c _)) | (with_reducible apply e_call isint) | (with_reducible apply e_call (h _)) | (with_reducible apply e_call (hb _)) | (with_reducible apply e_call tup_lst) | (wtm_at "mp1"))
theorem lap_not {k : Int} (hg : genB lot k = false) {M : Mem} : Flot_apery [.d (ti lot), .d (.int k)] M = .exc ⟨"Malformed", []⟩ M := by
  have c := fun M => check_ok H (M := M)
  have h := fun M => holds_ok H (k := k) (M := M)
  rw [hg] at h
  unfold Flot_apery
  refine e_fn rfl ?_
  unfold Tlot_apery
  by_cases k1 : 1 ≤ k
  · by_cases k2 : k ≤ 1000
    · repeat' (first | (wtm_at "mpA") | (with_reducible apply e_call (c _)) | (with_reducible apply e_call isint) | (with_reducible apply e_call (h _)) | (wtm_at "mp1"))
    · repeat' (first | (wtm_at "mpA") | (with_reducible apply e_call (c _)) | (with_reducible apply e_call isint) | (wtm_at "mp1"))
  · repeat' (first | (wtm_at "mpA") | (with_reducible apply e_call (c _)) | (with_reducible apply e_call isint) | (wtm_at "mp1"))
theorem lap_out {k : Int} (hk : ¬ (1 ≤ k ∧ k ≤ 1000)) {M : Mem} : Flot_apery [.d (ti lot), .d (.int k)] M = .exc ⟨"Malformed", []⟩ M := by
  have c := fun M => check_ok H (M := M)
  unfold Flot_apery
  refine e_fn rfl ?_
  unfold Tlot_apery
  by_cases k1 : 1 ≤ k
  · have k2 : ¬ k ≤ 1000 := fun x => hk ⟨k1, x⟩
    repeat' (first | (wtm_at "mpA") | (with_reducible apply e_call (c _)) | (with_reducible apply e_call isint) | (wtm_at "mp1"))
  · repeat' (first | (wtm_at "mpA") | (with_reducible apply e_call (c _)) | (with_reducible apply e_call isint) | (wtm_at "mp1"))
theorem lap_no {d : D} (hf : ∀ x, d ≠ .fn x) (hi : isI d = false) {M : Mem} : Flot_apery [.d (ti lot), .d d] M = .exc ⟨"Malformed", []⟩ M := by
  have c := fun M => check_ok H (M := M)
  have e : ∀ M, Fis_integer [.d d] M = .ok (.d (.bl false)) M := fun M => by rw [isintD d hf, hi]
  unfold Flot_apery
  refine e_fn rfl ?_
  unfold Tlot_apery
  repeat' (first | (wtm_at "mpA") | (with_reducible apply e_call (c _)) | (with_reducible apply e_call (e _)) | (wtm_at "mp1"))
end

/-! lot_gaps -/
noncomputable def gapL (L : List Int) (n : Nat) : List Int := ((List.range n).filter fun k : Nat => !genB L (k : Int)).map fun k : Nat => (k : Int)
theorem gapL_len (L : List Int) : ∀ n : Nat, ((gapL L n).length : Int) = gapN L n
  | 0 => rfl
  | n + 1 => by
    have ih := gapL_len L n
    unfold gapL at ih ⊢
    rw [List.range_succ, List.filter_append, List.map_append, List.length_append, Int.natCast_add, ih]
    show gapN L n + _ = sg (n + 1) _
    rw [sg_succ]
    congr 1
    rw [List.filter_cons]
    unfold bI
    split
    · rfl
    · rfl
theorem gapL_more {L : List Int} {n : Nat} (h : ∀ k : Nat, n ≤ k → genB L (k : Int) = true) : ∀ j : Nat, gapL L (n + j) = gapL L n
  | 0 => rfl
  | j + 1 => by
    have ih := gapL_more h j
    unfold gapL at ih ⊢
    rw [← Nat.add_assoc, List.range_succ, List.filter_append, List.map_append, ih, List.filter_cons]
    rw [h (n + j) (by omega)]
    simp
theorem gapL_last {L : List Int} {n : Nat} (h : genB L (n : Int) = false) : gapL L (n + 1) = gapL L n ++ [(n : Int)] := by
  unfold gapL
  rw [List.range_succ, List.filter_append, List.map_append, List.filter_cons, h]
  rfl
theorem held_is (L : List Int) (N : Nat) : (List.range (N + 1)).map (fun k : Nat => D.bl (genB L (k : Int))) = heldL L N := rfl
section
variable {lot : List Int} {m N : Nat} {A : List Int} (H : LotA lot m A) (hN : N ≤ 100000)
include H
theorem gen_mod (k : Nat) : decide (A.getD ((k : Int) % (m : Nat)).toNat 0 ≤ (k : Int)) = genB lot (k : Int) := by
  have h := H.ap.holds H.hm H.gen (k := (k : Int))
  cases e : genB lot (k : Int) with
  | true => exact decide_eq_true (h.mp (genB_iff.mp e))
  | false => exact decide_eq_false fun x => by rw [genB_iff.mpr (h.mpr x)] at e; cases e
include hN
theorem members_ok {M : Mem} : Fmembers_to [.d (ti lot), .d (.int (N : Nat))] M = .ok (.fr (heldL lot N)) M := by
  have h0 := H.hm
  have h2 := H.hm2
  have hl := A_len H
  have rg : ∀ {β : Type} {res : Out β} {q : Itm → Out β}, q ⟨rngL 0 (N + 1), []⟩ = res → optK (rngItm [.d (.int ((N : Nat) + 1))]) q = res := fun {β res q} h => by
    rw [show ((N : Nat) : Int) + 1 = ((N + 1 : Nat) : Int) by omega]
    exact o_rngN (by omega) h
  unfold Fmembers_to
  refine e_fn rfl ?_
  unfold Tmembers_to
  repeat' (first | (wtm_at "mpA") | (with_reducible apply p_idx (H.i0 _)) | (with_reducible apply e_call (H.p _)) | (with_reducible refine rg ?_) | (wtm_at "mp0"))
  refine e_compR (fun k : Nat => .bl (genB lot (k : Int))) (by omega) (fun k hk => ⟨_, rfl, .d (.bl (genB lot (k : Int))), el_start ?_, rfl⟩) ?_
  · have r0 := Int.emod_nonneg (k : Int) (show ((m : Nat) : Int) ≠ 0 by omega)
    have r1 := Int.emod_lt_of_pos (k : Int) (show (0 : Int) < (m : Nat) by omega)
    have i1 : ∀ M, idx (.d (.lst (A.map .int))) (.d (.int ((k : Int) % (m : Nat)))) M = .ok (.d (.int (A.getD ((k : Int) % m).toNat 0))) M := fun M => idx_li r0 (by omega)
    rw [← gen_mod H]
    repeat' (first | (wtm_at "mpA") | (with_reducible apply p_idx (i1 _)) | (wtm_at "mp1"))
    rfl
  · repeat' (first | (wtm_at "mpA") | (wtm_at "mp1"))
    exact r_f
end
theorem enumL_app : ∀ (xs ys : List D) (j : Nat), enumL j (xs ++ ys) = enumL j xs ++ enumL (j + xs.length) ys
  | [], ys, j => rfl
  | x :: r, ys, j => by
    rw [List.cons_append, enumL, enumL_app r ys (j + 1), enumL, List.cons_append, List.length_cons]
    congr 3
    omega
theorem enum_rng (f : Nat → D) : ∀ n : Nat, enumL 0 ((List.range n).map f) = (List.range n).map fun k : Nat => D.tup [.int (k : Nat), f k]
  | 0 => rfl
  | n + 1 => by
    rw [List.range_succ, List.map_append, enumL_app, enum_rng f n, List.map_append, List.length_map, List.length_range, Nat.zero_add]
    rfl
section
variable {lot : List Int} {m : Nat} {A : List Int} (H : LotA lot m A)
include H
theorem lgaps_ok {c : Nat} (hc : condA m A = c) (h3 : c ≤ 3000) {M : Mem} : Flot_gaps [.d (ti lot)] M = .ok (.d (ti (gapL lot (c + 1)))) M := by
  have ck := fun M => check_ok H (M := M)
  have cd := fun M => cond_ok H (M := M)
  rw [hc] at cd
  have mb := fun M => members_ok H (N := c) (by omega) (M := M)
  have h3' : ¬ (3000 : Int) < (c : Nat) := by omega
  have en : ∀ M {β : Type} {res : Out β} {q : Itm → Out β}, q ⟨(List.range (c + 1)).map fun k : Nat => D.tup [.int (k : Nat), .bl (genB lot (k : Int))], []⟩ = res → optK (enumItm2 M [.d (.lst (heldL lot c))]) q = res := fun M {β res q} h => by
    have e : enumItm2 M [.d (.lst (heldL lot c))] = some ⟨enumL 0 (heldL lot c), []⟩ := rfl
    rw [e, show heldL lot c = (List.range (c + 1)).map fun k : Nat => D.bl (genB lot (k : Int)) from rfl, enum_rng]
    exact h
  unfold Flot_gaps
  refine e_fn rfl ?_
  unfold Tlot_gaps
  repeat' (first | (wtm_at "mpA") | (with_reducible apply e_call (ck _)) | (with_reducible apply e_call (cd _)) | (with_reducible apply e_call (mb _)) | (with_reducible refine en _ ?_) | (wtm_at "mp0"))
  refine e_compM (φ := fun k : Nat => D.tup [.int (k : Nat), .bl (genB lot (k : Int))]) (List.range (c + 1)) (fun k : Nat => .int (k : Nat)) (fun k : Nat => !genB lot (k : Int)) (fun k hk => ⟨_, rfl, el_start ?_, fun _ => ⟨.d (.int (k : Nat)), el_start ?_, rfl⟩⟩) (by rw [List.length_range]; omega) ?_
  · repeat' (first | (wtm_at "mpA") | (wtm_at "mp1"))
    rfl
  · repeat' (first | (wtm_at "mpA") | (wtm_at "mp1"))
    rfl
  · have e : (((List.range (c + 1)).filter fun k : Nat => !genB lot (k : Int)).map fun k : Nat => D.int (k : Nat)) = (gapL lot (c + 1)).map .int := by unfold gapL; rw [List.map_map]; rfl
    rw [e]
    repeat' (first | (wtm_at "mpA") | (with_reducible apply e_call tup_lst) | (wtm_at "mp1"))
theorem lgaps_large (h3 : 3000 < condA m A) {M : Mem} : Flot_gaps [.d (ti lot)] M = .exc ⟨"Refused", [("reason", .str "large")]⟩ M := by
  have ck := fun M => check_ok H (M := M)
  have cd := fun M => cond_ok H (M := M)
  unfold Flot_gaps
  refine e_fn rfl ?_
  unfold Tlot_gaps
  repeat' (first | (wtm_at "mpA") | (with_reducible apply e_call (ck _)) | (with_reducible apply e_call (cd _)) | (wtm_at "mp1"))
end

/-! drawn lots -/
theorem gcdL_pos {c : List Int} (h : c ≠ []) (hp : PosL c) : 0 < gcdL c := by
  have h1 := gcdL_nn c
  rcases Int.lt_or_eq_of_le h1 with h2 | h2
  · exact h2
  · cases c with
    | nil => exact absurd rfl h
    | cons x r =>
      have h3 := gcdL_mem (L := x :: r) List.mem_cons_self
      rw [← h2] at h3
      have := hp x List.mem_cons_self
      have := Int.zero_dvd.mp h3
      omega
theorem gcd_quot {c : List Int} (h : c ≠ []) (hp : PosL c) : gcdL (c.map fun x => x / gcdL c) = 1 := by
  have hg := gcdL_pos h hp
  have h0 := gcdL_nn (c.map fun x => x / gcdL c)
  generalize hd : gcdL (c.map fun x => x / gcdL c) = d at *
  have h2 : gcdL c * d ∣ gcdL c := gcdL_of fun x hx => by
    obtain ⟨k, hk⟩ := gcdL_mem hx
    have h3 : d ∣ x / gcdL c := by rw [← hd]; exact gcdL_mem (List.mem_map.mpr ⟨x, hx, rfl⟩)
    have e : x / gcdL c = k := by
      conv => lhs; lhs; rw [hk]
      exact Int.mul_ediv_cancel_left k (by omega)
    rw [e] at h3
    rw [hk]
    exact Int.mul_dvd_mul_left _ h3
  obtain ⟨k, hk⟩ := h2
  have h4 : d * k = 1 := by
    have : gcdL c * (d * k) = gcdL c * 1 := by rw [Int.mul_one, ← Int.mul_assoc]; exact hk.symm
    exact Int.eq_of_mul_eq_mul_left (by omega) this
  exact Int.eq_one_of_mul_eq_one_right h0 h4
theorem quot_bd {c : List Int} (h : c ≠ []) (hp : PosL c) {B : Int} (hb : ∀ y ∈ c, y ≤ B) : ∀ y ∈ c.map fun x => x / gcdL c, 1 ≤ y ∧ y ≤ B := fun y hy => by
  obtain ⟨x, hx, rfl⟩ := List.mem_map.mp hy
  have hg := gcdL_pos h hp
  have h0 := hp x hx
  have h1 := hb x hx
  have h2 : gcdL c ≤ x := Int.le_of_dvd h0 (gcdL_mem hx)
  have h3 := Int.ediv_le_self (gcdL c) (show 0 ≤ x by omega)
  have h4 : 1 ≤ x / gcdL c := (Int.le_ediv_iff_mul_le hg).mpr (by omega)
  omega
theorem lot_items {c : List Int} (h : c ≠ []) (hb : ∀ y ∈ c, 1 ≤ y ∧ y ≤ 1000) (hl : c.length ≤ 12) (hg : gcdL c = 1) : lotC (leastL (sortU c)) = true ∧ (leastL (sortU c)).length ≤ c.length ∧ ∀ y ∈ leastL (sortU c), y ∈ c := by
  obtain ⟨h1, h2, h3⟩ := least_facts _ (sortU c) rfl
  have mem : ∀ y ∈ leastL (sortU c), y ∈ c := fun y hy => sortU_mem.mp (h1.subset hy)
  have len : (leastL (sortU c)).length ≤ c.length := Nat.le_trans h1.length_le (sortU_le c)
  refine ⟨lotC_of (fun e => ?_) (by omega) (fun y hy => hb y (mem y hy)) ((sortU_lt c).sublist h1) ?_ h3, len, mem⟩
  · cases c with
    | nil => exact absurd rfl h
    | cons x r =>
      have := h2 x (sortU_mem.mpr List.mem_cons_self)
      rw [e] at this
      have := gen_nil.mp this
      have := hb x List.mem_cons_self
      omega
  · rw [← hg]
    exact gcdL_gen (fun x hx => .of_mem (mem x hx)) fun x hx => h2 x (sortU_mem.mpr hx)
/-- a lot that the law draws -/
def GoodM (many : Nat) (most : Int) (lot : List Int) : Prop := lotC lot = true ∧ lot.length ≤ many ∧ ∀ y ∈ lot, y ≤ most
theorem ints_of {Pr : Int → Prop} : ∀ xs : List D, (∀ x ∈ xs, ∃ i : Int, x = .int i ∧ Pr i) → ∃ c : List Int, xs = c.map .int ∧ ∀ i ∈ c, Pr i
  | [], _ => ⟨[], rfl, fun i h => nomatch h⟩
  | x :: xs, h => by
    obtain ⟨i, rfl, hi⟩ := h x List.mem_cons_self
    obtain ⟨c, rfl, hc⟩ := ints_of xs fun x hx => h x (.tail _ hx)
    exact ⟨i :: c, rfl, fun j hj => by
      rcases List.mem_cons.mp hj with rfl | hj
      · exact hi
      · exact hc j hj⟩
theorem llot_ok {many most a b : Int} {Mt : Mem} (h1 : 1 ≤ many ∧ many ≤ 12) (h2 : 1 ≤ most ∧ most ≤ 1000) : ∃ lot a' b', F_law_lot [.cell 0, .d (.int many), .d (.int most)] (St a b Mt) = .ok (.d (ti lot)) (St a' b' Mt) ∧ GoodM many.toNat most lot := by
  obtain ⟨r, a1, b1, e1, f1⟩ := take_ok (m := many) (a := a) (b := b) (Mt := Mt) (by omega)
  obtain ⟨xs, M', e, ⟨a2, b2, rfl⟩, h3, h4⟩ := comp_ex (f := (sBin .Add (sCon (.int 1)) (sArgs F_law_take (sCons (sVar 0) (sCons (sVar 2) sNil))))) (c := sYes) (tg := .name 5) (vs := (([("k", 5)] : List (Str × Nat)).map (·.2))) (env := [some (.cell 0), some (.d (.int many)), some (.d (.int most)), none, none, none, none])
    (I := fun M => ∃ a b, M = St a b Mt) (Pr := fun x => ∃ i : Int, x = .int i ∧ 1 ≤ i ∧ i ≤ most) (rngL 0 (1 + r).toNat) [] (St a1 b1 Mt) ⟨a1, b1, rfl⟩ (fun d hd M h => by
      obtain ⟨a, b, rfl⟩ := h
      obtain ⟨r1, a1, b1, e1, f1⟩ := take_ok (m := most) (a := a) (b := b) (Mt := Mt) (by omega)
      refine ⟨_, rfl, rfl, .d (.int (1 + r1)), St a1 b1 Mt, .int (1 + r1), el_start ?_, rfl, ⟨_, rfl, by omega, by omega⟩, a1, b1, rfl⟩
      repeat' (first | (wtm_at "mpA") | (with_reducible apply e_call e1) | (wtm_at "mp1"))
      rfl) (by rw [rngL_len]; show 0 + _ ≤ _; omega)
  obtain ⟨c, rfl, hc⟩ := ints_of xs h4
  rw [List.length_map, rngL_len] at h3
  rw [List.nil_append] at e
  have hne : c ≠ [] := fun e => by rw [e] at h3; simp at h3; omega
  have hp : PosL c := fun y hy => by have := hc y hy; omega
  have q1 := quot_bd hne hp (B := most) fun y hy => (hc y hy).2
  have q2 := gcd_quot hne hp
  have ql : (c.map fun x => x / gcdL c).length ≤ many.toNat := by rw [List.length_map]; omega
  have qn : (c.map fun x => x / gcdL c) ≠ [] := fun e => hne (List.map_eq_nil_iff.mp e)
  obtain ⟨g1, g2, g3⟩ := lot_items qn (fun y hy => by have := q1 y hy; omega) (by omega) q2
  have hg := gcdL_pos hne hp
  have hg2 : gcdL c ≤ most := by
    cases c with
    | nil => exact absurd rfl hne
    | cons x r =>
      have h1 := hc x List.mem_cons_self
      have := Int.le_of_dvd (show 0 < x by omega) (gcdL_mem (L := x :: r) List.mem_cons_self)
      omega
  have gk : ∀ M, F_law_gcd [.d (.lst (c.map .int))] M = .ok (.d (.int (gcdL c))) M := fun M => lgcd_ok (it_li c) (fun y hy => by have := hc y hy; unfold SmI; omega)
  have lk : ∀ M, F_law_least [.d (.lst ((c.map fun x => x / gcdL c).map .int))] M = .ok (.d (ti (leastL (sortU (c.map fun x => x / gcdL c))))) M := fun M => lleast_ok (row_li _) qn (by omega) fun y hy => by have := q1 y hy; omega
  refine ⟨leastL (sortU (c.map fun x => x / gcdL c)), a2, b2, ?_, g1, by omega, fun y hy => (q1 y (g3 y hy)).2⟩
  unfold F_law_lot
  refine e_fn rfl ?_
  unfold T_law_lot
  repeat' (first | (wtm_at "mpA") | (with_reducible apply e_call e1) | (wtm_at "mp0"))
  refine e_is e ?_
  repeat' (first | (wtm_at "mpA") | (with_reducible apply e_call (gk _)) | (wtm_at "mp0"))
  refine e_compA (φ := D.int) c (fun x => .int (x / gcdL c)) (fun x hx => ⟨_, rfl, .d (.int (x / gcdL c)), el_start ?_, rfl⟩) (by omega) ?_
  · repeat' (first | (wtm_at "mpA") | (wtm_at "mp1"))
    rfl
  · have e : c.map (fun x => D.int (x / gcdL c)) = (c.map fun x => x / gcdL c).map .int := by rw [List.map_map]; rfl
    rw [e]
    repeat' (first | (wtm_at "mpA") | (with_reducible apply e_call (lk _)) | (wtm_at "mp1"))
    exact r_dT

/-! lot_of -/
theorem lots_big {c : List Int} (h : ∀ y ∈ c, 1 ≤ y ∧ y ≤ 1000) (hne : c ≠ []) : leastL (sortU c) ≠ [] ∧ ∀ y ∈ leastL (sortU c), 1 ≤ y ∧ y ≤ 1000 := by
  obtain ⟨h1, h2, h3⟩ := least_facts _ (sortU c) rfl
  refine ⟨fun e => ?_, fun y hy => h y (sortU_mem.mp (h1.subset hy))⟩
  cases c with
  | nil => exact hne rfl
  | cons x r =>
    have h4 := h2 x (sortU_mem.mpr List.mem_cons_self)
    rw [e] at h4
    have := gen_nil.mp h4
    have := h x List.mem_cons_self
    omega
theorem bounded_ok {L : List Int} (hne : L ≠ []) (h : ∀ y ∈ L, 1 ≤ y ∧ y ≤ 1000) (hl : L.length ≤ 12) {M : Mem} : Fbounded [.d (.lst (L.map .int))] M = .ok (.d (ti L)) M := by
  have l1 : ∀ M, lenOp [.d (.lst (L.map .int))] M = .ok (.d (.int (L.length : Nat))) M := fun M => by
    show Out.ok (AV.d (.int ((L.map D.int).length : Nat))) M = _
    rw [List.length_map]
  have mx : ∀ M, maxOp2 [.d (.lst (L.map .int))] M = .ok (.d (.int (maxI L))) M := fun M => max_lst hne
  have hm := h _ (maxI_mem hne)
  have h1 : ¬ (12 : Int) < (L.length : Nat) := by omega
  have h2 : ¬ (1000 : Int) < maxI L := by omega
  unfold Fbounded
  refine e_fn rfl ?_
  unfold Tbounded
  repeat' (first | (wtm_at "mpA") | (with_reducible apply e_call (l1 _)) | (with_reducible apply e_call (mx _)) | (with_reducible apply e_call tup_lst) | (wtm_at "mp1"))
theorem bounded_large {L : List Int} (hl : 12 < L.length) {M : Mem} : Fbounded [.d (.lst (L.map .int))] M = .exc ⟨"Refused", [("reason", .str "large")]⟩ M := by
  have l1 : ∀ M, lenOp [.d (.lst (L.map .int))] M = .ok (.d (.int (L.length : Nat))) M := fun M => by
    show Out.ok (AV.d (.int ((L.map D.int).length : Nat))) M = _
    rw [List.length_map]
  have h1 : (12 : Int) < (L.length : Nat) := by omega
  unfold Fbounded
  refine e_fn rfl ?_
  unfold Tbounded
  repeat' (first | (wtm_at "mpA") | (with_reducible apply e_call (l1 _)) | (wtm_at "mp1"))
section
variable {c : List Int} {M : Mem} (hne : c ≠ []) (hl : c.length ≤ 60) (h : ∀ y ∈ c, 1 ≤ y ∧ y ≤ 1000)
include hne hl h
theorem areg60 (M : Mem) : Fare_generators [.d (ti c), .d (.int 60)] M = .ok (.d (.bl true)) M := by
  have h1 : 1 ≤ c.length := by
    cases c with
    | nil => exact absurd rfl hne
    | cons _ _ => rw [List.length_cons]; omega
  have e := areg_ok (ds := c.map D.int) (most := 60) (by rw [List.length_map]; omega) (fun d hd x => by
    obtain ⟨i, _, rfl⟩ := List.mem_map.mp hd
    exact fun h => nomatch h) (M := M)
  have ga : (c.map D.int).all gB = true := by
    rw [List.all_map, List.all_eq_true]
    intro y hy
    have := h y hy
    show (decide (1 ≤ y) && decide (y ≤ 1000)) = true
    simp only [Bool.and_eq_true, decide_eq_true_eq]
    exact this
  rw [List.length_map, decide_eq_true (show (1 : Int) ≤ (c.length : Nat) by omega), decide_eq_true (show ((c.length : Nat) : Int) ≤ 60 by omega), ga] at e
  exact e
theorem lotof_common (hg : gcdL c ≠ 1) : Flot_of [.d (ti c)] M = .exc ⟨"Refused", [("reason", .str "common")]⟩ M := by
  have a := areg60 hne hl h
  have g : ∀ M, Fcommon_of [.d (ti c)] M = .ok (.d (.int (gcdL c))) M := fun M => comof_ok (it_ti c) fun y hy => by have := h y hy; unfold SmI; omega
  generalize gcdL c = gg at *
  unfold Flot_of
  refine e_fn rfl ?_
  unfold Tlot_of
  repeat' (first | (wtm_at "mpA") | (with_reducible apply e_call (a _)) | (with_reducible apply e_call (g _)) | (wtm_at "mp1"))
theorem lotof_large (hg : gcdL c = 1) (h12 : 12 < (leastL (sortU c)).length) : Flot_of [.d (ti c)] M = .exc ⟨"Refused", [("reason", .str "large")]⟩ M := by
  have a := areg60 hne hl h
  have g : ∀ M, Fcommon_of [.d (ti c)] M = .ok (.d (.int (gcdL c))) M := fun M => comof_ok (it_ti c) fun y hy => by have := h y hy; unfold SmI; omega
  rw [hg] at g
  have l : ∀ M, Fleast_of [.d (ti c)] M = .ok (.fr ((leastL (sortU c)).map .int)) M := fun M => least_ok (row_ti c) hne (by omega) fun y hy => by have := h y hy; omega
  have b := fun M => bounded_large h12 (M := M)
  unfold Flot_of
  refine e_fn rfl ?_
  unfold Tlot_of
  repeat' (first | (wtm_at "mpA") | (with_reducible apply e_call (a _)) | (with_reducible apply e_call (g _)) | (with_reducible apply e_call (l _)) | (with_reducible apply e_callX (b _)) | (wtm_at "mp1"))
theorem lotof_ok (hg : gcdL c = 1) (h12 : (leastL (sortU c)).length ≤ 12) : Flot_of [.d (ti c)] M = .ok (.d (ti (leastL (sortU c)))) M := by
  have a := areg60 hne hl h
  have g : ∀ M, Fcommon_of [.d (ti c)] M = .ok (.d (.int (gcdL c))) M := fun M => comof_ok (it_ti c) fun y hy => by have := h y hy; unfold SmI; omega
  rw [hg] at g
  have l : ∀ M, Fleast_of [.d (ti c)] M = .ok (.fr ((leastL (sortU c)).map .int)) M := fun M => least_ok (row_ti c) hne (by omega) fun y hy => by have := h y hy; omega
  obtain ⟨b1, b2⟩ := lots_big h hne
  have b := fun M => bounded_ok b1 b2 h12 (M := M)
  unfold Flot_of
  refine e_fn rfl ?_
  unfold Tlot_of
  repeat' (first | (wtm_at "mpA") | (with_reducible apply e_call (a _)) | (with_reducible apply e_call (g _)) | (with_reducible apply e_call (l _)) | (with_reducible apply e_call (b _)) | (wtm_at "mp1"))
end
theorem lotof_bad {d : D} (h : ∀ M, Fare_generators [.d d, .d (.int 60)] M = .ok (.d (.bl false)) M) {M : Mem} : Flot_of [.d d] M = .exc ⟨"Malformed", []⟩ M := by
  unfold Flot_of
  refine e_fn rfl ?_
  unfold Tlot_of
  repeat' (first | (wtm_at "mpA") | (with_reducible apply e_call (h _)) | (wtm_at "mp1"))

/-! _law_is_lot -/
theorem wholeD (d : D) (hf : ∀ x, d ≠ .fn x) {M : Mem} : F_law_is_whole [.d d] M = .ok (.d (.bl (isI d))) M := by
  unfold F_law_is_whole
  refine e_fn rfl ?_
  unfold T_law_is_whole
  cases d with
  | fn x => exact absurd rfl (hf x)
  | non => repeat' (first | (wtm_at "mpA") | (wtm_at "mp2"))
  | bl b => repeat' (first | (wtm_at "mpA") | (wtm_at "mp2"))
  | int i => repeat' (first | (wtm_at "mpA") | (wtm_at "mp2"))
  | str x => repeat' (first | (wtm_at "mpA") | (wtm_at "mp2"))
  | tup xs => repeat' (first | (wtm_at "mpA") | (wtm_at "mp2"))
  | lst xs => repeat' (first | (wtm_at "mpA") | (wtm_at "mp2"))
theorem lil_all {ds : List D} (hd : ds.length ≤ 1000) (hf : ∀ d ∈ ds, ∀ x, d ≠ .fn x) (env : Env) (he : env = [some (.d (.tup ds)), none]) {M : Mem} : compL (sAnd (sArgs F_law_is_whole (sCons (sVar 1) sNil)) (sChain .LtE .LtE (sCon (.int 1)) (sVar 1) (sCon (.int 1000)))) sYes (.name 1) (([("x", 1)] : List (Str × Nat)).map (·.2)) [] env ds [] M = .ok (.fr ((ds.map gB).map .bl)) M := by
  subst he
  refine el_start (e_compE (fun d => .bl (gB d)) (fun _ => true) (fun d hd => ?_) (show ds.length ≤ 1000000 by omega) ?_)
  · refine ⟨_, rfl, rfl, fun _ => ⟨.d (.bl (gB d)), el_start ?_, rfl⟩⟩
    have e : ∀ M, F_law_is_whole [.d d] M = .ok (.d (.bl (isI d))) M := fun M => wholeD d (hf d hd)
    by_cases hi : isI d = true
    · rw [hi] at e
      obtain ⟨m, rfl⟩ := isI_int hi
      show _ = Out.ok (AV.d (.bl (decide (1 ≤ m) && decide (m ≤ 1000)))) _
      by_cases h1 : 1 ≤ m
      · rw [decide_eq_true h1, Bool.true_and]
        repeat' (first | (wtm_at "mpA") | (with_reducible apply e_call (e _)) | (wtm_at "mp1"))
        rfl
      · rw [decide_eq_false h1, Bool.false_and]
        repeat' (first | (wtm_at "mpA") | (with_reducible apply e_call (e _)) | (wtm_at "mp1"))
        rfl
    · have hi : isI d = false := by simpa using hi
      rw [hi] at e
      have hg : gB d = false := by
        cases d with
        | int i => cases hi
        | _ => rfl
      rw [hg]
      repeat' (first | (wtm_at "mpA") | (with_reducible apply e_call (e _)) | (wtm_at "mp1"))
      rfl
  · rw [List.filter_eq_self.mpr (fun _ _ => rfl), List.map_map]
    rfl
theorem lil_bad {ds : List D} (hd : ds.length ≤ 1000) (hf : ∀ d ∈ ds, ∀ x, d ≠ .fn x) (h : ((decide (1 ≤ (ds.length : Int)) && decide ((ds.length : Int) ≤ 12)) && ds.all gB) = false) {M : Mem} : F_law_is_lot [.d (.tup ds)] M = .ok (.d (.bl false)) M := by
  unfold F_law_is_lot
  refine e_fn rfl ?_
  unfold T_law_is_lot
  by_cases h1 : 1 ≤ (ds.length : Int)
  · by_cases h2 : (ds.length : Int) ≤ 12
    · rw [decide_eq_true h1, decide_eq_true h2, Bool.true_and, Bool.true_and] at h
      have cm := lil_all hd hf _ rfl (M := M)
      have e2 : (ds.map gB).all id = ds.all gB := by rw [List.all_map]; rfl
      repeat' (first | (wtm_at "mpA") | (wtm_at "mp0"))
      refine e_is cm ?_
      repeat' (first | (wtm_at "mpA") | (with_reducible apply e_call all_bls) | (wtm_at "mp0"))
      rw [e2, h]
      repeat' (first | (wtm_at "mpA") | (wtm_at "mp1"))
    · repeat' (first | (wtm_at "mpA") | (wtm_at "mp1"))
  · repeat' (first | (wtm_at "mpA") | (wtm_at "mp1"))
theorem lil_no {d : D} (hf : ∀ x, d ≠ .fn x) (ht : ∀ xs, d ≠ .tup xs) {M : Mem} : F_law_is_lot [.d d] M = .ok (.d (.bl false)) M := by
  unfold F_law_is_lot
  refine e_fn rfl ?_
  unfold T_law_is_lot
  cases d with
  | non => repeat' (first | (wtm_at "mpA") | (wtm_at "mp2"))
  | bl b => repeat' (first | (wtm_at "mpA") | (wtm_at "mp2"))
  | int i => repeat' (first | (wtm_at "mpA") | (wtm_at "mp2"))
  | str x => repeat' (first | (wtm_at "mpA") | (wtm_at "mp2"))
  | tup xs => exact absurd rfl (ht xs)
  | lst xs => repeat' (first | (wtm_at "mpA") | (wtm_at "mp2"))
  | fn x => exact absurd rfl (hf x)
theorem asc_sortU (c : List Int) : decide (c = sortU c) = ((List.zip c c.tail).all fun p => decide (p.1 < p.2)) := by
  cases h : ((List.zip c c.tail).all fun p => decide (p.1 < p.2)) with
  | true => exact decide_eq_true (sortU_asc ((asc_zip c).mp h)).symm
  | false =>
    refine decide_eq_false fun e => ?_
    have h2 : c.Pairwise (· < ·) := by rw [e]; exact sortU_lt c
    rw [(asc_zip c).mpr h2] at h
    cases h
theorem eq_tis2 (a b : List Int) (M : Mem) : cmpop .Eq (.d (ti a)) (.d (ti b)) M = .ok (.d (.bl (decide (a = b)))) M := by
  have e : cmpv .Eq M (.d (ti a)) (.d (ti b)) = some (D.eqv (ti a) (ti b)) := by
    show (if ((ti a).ok && (ti b).ok) = true then _ else _) = _
    rw [ok_ti, ok_ti]
    rfl
  have e2 : D.eqv (ti a) (ti b) = decide (a = b) := eqvAll_ti a b
  unfold cmpop
  rw [e, e2]
theorem lil_ok {c : List Int} (hl : c.length ≤ 900) {M : Mem} : F_law_is_lot [.d (ti c)] M = .ok (.d (.bl (lotC c))) M := by
  have hf : ∀ d ∈ c.map D.int, ∀ x, d ≠ .fn x := fun d hd x h => by obtain ⟨i, _, rfl⟩ := List.mem_map.mp hd; cases h
  have hlen : (c.map D.int).length = c.length := List.length_map ..
  unfold lotC
  cases hA : ((decide (1 ≤ (c.length : Int)) && decide ((c.length : Int) ≤ 12)) && (c.map D.int).all gB) with
  | false =>
    rw [Bool.false_and]
    exact lil_bad (by omega) hf (by rw [hlen, hA])
  | true =>
    rw [Bool.true_and]
    simp only [Bool.and_eq_true, decide_eq_true_eq] at hA
    have hs := gB_all hA.2
    have hne : c ≠ [] := fun e => by rw [e] at hA; simp at hA
    have h1 : 1 ≤ ((c.map D.int).length : Int) := by omega
    have h2 : ((c.map D.int).length : Int) ≤ 12 := by omega
    have cm := lil_all (ds := c.map .int) (by omega) hf _ rfl (M := M)
    have al : ((c.map D.int).map gB).all id = true := by rw [List.all_map]; exact hA.2
    have gk : ∀ M, F_law_gcd [.d (ti c)] M = .ok (.d (.int (gcdL c))) M := fun M => lgcd_ok (it_ti c) fun y hy => by have := hs y hy; unfold SmI; omega
    have ss : ∀ M, sortSetOp (.d (ti c)) M = .ok (.fr ((sortU c).map .int)) M := fun M => (row_ti c).ss (by omega) M
    have lk : ∀ M, F_law_least [.d (ti c)] M = .ok (.d (ti (leastL (sortU c)))) M := fun M => lleast_ok (row_ti c) hne (by omega) fun y hy => by have := hs y hy; omega
    unfold F_law_is_lot
    refine e_fn rfl ?_
    unfold T_law_is_lot
    repeat' (first | (wtm_at "mpA") | (wtm_at "mp0"))
    refine e_is cm ?_
    repeat' (first | (wtm_at "mpA") | (with_reducible apply e_call all_bls) | (wtm_at "mp0"))
    rw [al]
    repeat' (first | (wtm_at "mpA") | (with_reducible apply e_call lst_tup) | (with_reducible refine e_sortset ?_) | (with_reducible refine e_is (ss _) ?_) | (with_reducible apply p_cmpE (eq_frs _ _ _)) | (wtm_at "mp0"))
    rw [asc_sortU]
    cases hZ : ((List.zip c c.tail).all fun p => decide (p.1 < p.2)) with
    | false =>
      rw [Bool.false_and]
      repeat' (first | (wtm_at "mpA") | (wtm_at "mp1"))
    | true =>
      have asc := (asc_zip c).mp hZ
      rw [Bool.true_and]
      repeat' (first | (wtm_at "mpA") | (with_reducible apply e_call (gk _)) | (wtm_at "mp0"))
      by_cases hg : gcdL c = 1
      · rw [decide_eq_true hg, Bool.true_and]
        rw [sortU_asc asc, ← leastC_eq _ _ rfl fun y hy => by have := hs y hy; omega] at lk
        repeat' (first | (wtm_at "mpA") | (with_reducible apply e_call (lk _)) | (with_reducible apply p_cmpE (eq_tis2 _ _ _)) | (wtm_at "mp1"))
      · rw [decide_eq_false hg, Bool.false_and]
        repeat' (first | (wtm_at "mpA") | (wtm_at "mp1"))

/-! what is told -/
theorem hd_mal : hdRun ctE ⟨"Malformed", []⟩ [("Malformed", (xTup2 (fun _ => some (.str "malformed")) (fun _ => some .non))), ("Refused", (xTup2 (fun _ => some (.str "refused")) (xFld "Refused" "reason")))] = some (some (.tup [.str "malformed", .non])) := by decide +kernel
theorem hd_large : hdRun ctE ⟨"Refused", [("reason", .str "large")]⟩ [("Malformed", (xTup2 (fun _ => some (.str "malformed")) (fun _ => some .non))), ("Refused", (xTup2 (fun _ => some (.str "refused")) (xFld "Refused" "reason")))] = some (some (.tup [.str "refused", .str "large"])) := by decide +kernel
theorem hd_common : hdRun ctE ⟨"Refused", [("reason", .str "common")]⟩ [("Malformed", (xTup2 (fun _ => some (.str "malformed")) (fun _ => some .non))), ("Refused", (xTup2 (fun _ => some (.str "refused")) (xFld "Refused" "reason")))] = some (some (.tup [.str "refused", .str "common"])) := by decide +kernel
theorem oddB {b : Bool} {n : Nat} {M : Mem} : F_law_odd (n + 1) [.d (.bl b)] M = .ok (.d (.bl false)) M := by
  show fnRun _ _ (T_law_odd (F_law_odd n)) _ _ = _
  refine e_fn rfl ?_
  unfold T_law_odd
  repeat' (first | (wtm_at "mpA") | (wtm_at "mp1"))
theorem told0 {v x w : D} {M : Mem} (h : Flot_of [.d v] M = .ok (.d w) M) (ho : F_law_odd 8 [.d w] M = .ok (.d (.bl false)) M) : F_law_told [.d (.int 0), .d v, .d x] M = .ok (.d (.tup [.str "told", w])) M := by
  unfold F_law_told
  refine e_fn rfl ?_
  unfold T_law_told
  repeat' (first | (wtm_at "mpA") | (with_reducible apply e_call h) | (with_reducible apply e_call (hon ho)) | (wtm_at "mp1"))
theorem told0M {v x : D} {M : Mem} (h : Flot_of [.d v] M = .exc ⟨"Malformed", []⟩ M) : F_law_told [.d (.int 0), .d v, .d x] M = .ok (.d (.tup [.str "malformed", .non])) M := by
  unfold F_law_told
  refine e_fn rfl ?_
  unfold T_law_told
  repeat' (first | (wtm_at "mpA") | (with_reducible refine e_callX h ?_) | (with_reducible apply h_some hd_mal) | (wtm_at "mp1"))
theorem told0L {v x : D} {M : Mem} (h : Flot_of [.d v] M = .exc ⟨"Refused", [("reason", .str "large")]⟩ M) : F_law_told [.d (.int 0), .d v, .d x] M = .ok (.d (.tup [.str "refused", .str "large"])) M := by
  unfold F_law_told
  refine e_fn rfl ?_
  unfold T_law_told
  repeat' (first | (wtm_at "mpA") | (with_reducible refine e_callX h ?_) | (with_reducible apply h_some hd_large) | (wtm_at "mp1"))
theorem told0C {v x : D} {M : Mem} (h : Flot_of [.d v] M = .exc ⟨"Refused", [("reason", .str "common")]⟩ M) : F_law_told [.d (.int 0), .d v, .d x] M = .ok (.d (.tup [.str "refused", .str "common"])) M := by
  unfold F_law_told
  refine e_fn rfl ?_
  unfold T_law_told
  repeat' (first | (wtm_at "mpA") | (with_reducible refine e_callX h ?_) | (with_reducible apply h_some hd_common) | (wtm_at "mp1"))
theorem told1 {v x w : D} {M : Mem} (h : Flot_conductor [.d v] M = .ok (.d w) M) (ho : F_law_odd 8 [.d w] M = .ok (.d (.bl false)) M) : F_law_told [.d (.int 1), .d v, .d x] M = .ok (.d (.tup [.str "told", w])) M := by
  unfold F_law_told
  refine e_fn rfl ?_
  unfold T_law_told
  repeat' (first | (wtm_at "mpA") | (with_reducible apply e_call h) | (with_reducible apply e_call (hon ho)) | (wtm_at "mp1"))
theorem told1M {v x : D} {M : Mem} (h : Flot_conductor [.d v] M = .exc ⟨"Malformed", []⟩ M) : F_law_told [.d (.int 1), .d v, .d x] M = .ok (.d (.tup [.str "malformed", .non])) M := by
  unfold F_law_told
  refine e_fn rfl ?_
  unfold T_law_told
  repeat' (first | (wtm_at "mpA") | (with_reducible refine e_callX h ?_) | (with_reducible apply h_some hd_mal) | (wtm_at "mp1"))
theorem told2 {v x w : D} {M : Mem} (h : Flot_genus [.d v] M = .ok (.d w) M) (ho : F_law_odd 8 [.d w] M = .ok (.d (.bl false)) M) : F_law_told [.d (.int 2), .d v, .d x] M = .ok (.d (.tup [.str "told", w])) M := by
  unfold F_law_told
  refine e_fn rfl ?_
  unfold T_law_told
  repeat' (first | (wtm_at "mpA") | (with_reducible apply e_call h) | (with_reducible apply e_call (hon ho)) | (wtm_at "mp1"))
theorem told2M {v x : D} {M : Mem} (h : Flot_genus [.d v] M = .exc ⟨"Malformed", []⟩ M) : F_law_told [.d (.int 2), .d v, .d x] M = .ok (.d (.tup [.str "malformed", .non])) M := by
  unfold F_law_told
  refine e_fn rfl ?_
  unfold T_law_told
  repeat' (first | (wtm_at "mpA") | (with_reducible refine e_callX h ?_) | (with_reducible apply h_some hd_mal) | (wtm_at "mp1"))
theorem told3 {v x w : D} {M : Mem} (h : Flot_gaps [.d v] M = .ok (.d w) M) (ho : F_law_odd 8 [.d w] M = .ok (.d (.bl false)) M) : F_law_told [.d (.int 3), .d v, .d x] M = .ok (.d (.tup [.str "told", w])) M := by
  unfold F_law_told
  refine e_fn rfl ?_
  unfold T_law_told
  repeat' (first | (wtm_at "mpA") | (with_reducible apply e_call h) | (with_reducible apply e_call (hon ho)) | (wtm_at "mp1"))
theorem told3M {v x : D} {M : Mem} (h : Flot_gaps [.d v] M = .exc ⟨"Malformed", []⟩ M) : F_law_told [.d (.int 3), .d v, .d x] M = .ok (.d (.tup [.str "malformed", .non])) M := by
  unfold F_law_told
  refine e_fn rfl ?_
  unfold T_law_told
  repeat' (first | (wtm_at "mpA") | (with_reducible refine e_callX h ?_) | (with_reducible apply h_some hd_mal) | (wtm_at "mp1"))
theorem told3L {v x : D} {M : Mem} (h : Flot_gaps [.d v] M = .exc ⟨"Refused", [("reason", .str "large")]⟩ M) : F_law_told [.d (.int 3), .d v, .d x] M = .ok (.d (.tup [.str "refused", .str "large"])) M := by
  unfold F_law_told
  refine e_fn rfl ?_
  unfold T_law_told
  repeat' (first | (wtm_at "mpA") | (with_reducible refine e_callX h ?_) | (with_reducible apply h_some hd_large) | (wtm_at "mp1"))
theorem told4 {v x w : D} {M : Mem} (h : Flot_holds [.d v, .d x] M = .ok (.d w) M) (ho : F_law_odd 8 [.d w] M = .ok (.d (.bl false)) M) : F_law_told [.d (.int 4), .d v, .d x] M = .ok (.d (.tup [.str "told", w])) M := by
  unfold F_law_told
  refine e_fn rfl ?_
  unfold T_law_told
  repeat' (first | (wtm_at "mpA") | (with_reducible apply e_call h) | (with_reducible apply e_call (hon ho)) | (wtm_at "mp1"))
theorem told4M {v x : D} {M : Mem} (h : Flot_holds [.d v, .d x] M = .exc ⟨"Malformed", []⟩ M) : F_law_told [.d (.int 4), .d v, .d x] M = .ok (.d (.tup [.str "malformed", .non])) M := by
  unfold F_law_told
  refine e_fn rfl ?_
  unfold T_law_told
  repeat' (first | (wtm_at "mpA") | (with_reducible refine e_callX h ?_) | (with_reducible apply h_some hd_mal) | (wtm_at "mp1"))
theorem told5 {v x w : D} {M : Mem} (h : Flot_apery [.d v, .d x] M = .ok (.d w) M) (ho : F_law_odd 8 [.d w] M = .ok (.d (.bl false)) M) : F_law_told [.d (.int 5), .d v, .d x] M = .ok (.d (.tup [.str "told", w])) M := by
  unfold F_law_told
  refine e_fn rfl ?_
  unfold T_law_told
  repeat' (first | (wtm_at "mpA") | (with_reducible apply e_call h) | (with_reducible apply e_call (hon ho)) | (wtm_at "mp1"))
theorem told5M {v x : D} {M : Mem} (h : Flot_apery [.d v, .d x] M = .exc ⟨"Malformed", []⟩ M) : F_law_told [.d (.int 5), .d v, .d x] M = .ok (.d (.tup [.str "malformed", .non])) M := by
  unfold F_law_told
  refine e_fn rfl ?_
  unfold T_law_told
  repeat' (first | (wtm_at "mpA") | (with_reducible refine e_callX h ?_) | (with_reducible apply h_some hd_mal) | (wtm_at "mp1"))
theorem same_toldI {x : Int} {M : Mem} : F_law_same 8 [.d (.tup [.str "told", .int x]), .d (.tup [.str "told", .int x])] M = .ok (.d (.bl true)) M := by
  refine same_two (n := 6) (fun M => sameW (by decide +kernel)) fun M => ?_
  rw [sameI, decide_eq_true rfl]
theorem same_toldT {c : List Int} (hl : c.length ≤ 90000) {M : Mem} : F_law_same 8 [.d (.tup [.str "told", ti c]), .d (.tup [.str "told", ti c])] M = .ok (.d (.bl true)) M := same_two (n := 6) (fun M => sameW (by decide +kernel)) fun M => same_ti hl
theorem same_mal {M : Mem} : F_law_same 8 [.d (.tup [.str "malformed", .non]), .d (.tup [.str "malformed", .non])] M = .ok (.d (.bl true)) M := same_two (n := 6) (fun M => sameW (by decide +kernel)) fun M => sameN
theorem same_large {M : Mem} : F_law_same 8 [.d (.tup [.str "refused", .str "large"]), .d (.tup [.str "refused", .str "large"])] M = .ok (.d (.bl true)) M := same_two (n := 6) (fun M => sameW (by decide +kernel)) fun M => sameW (by decide +kernel)
theorem same_common {M : Mem} : F_law_same 8 [.d (.tup [.str "refused", .str "common"]), .d (.tup [.str "refused", .str "common"])] M = .ok (.d (.bl true)) M := same_two (n := 6) (fun M => sameW (by decide +kernel)) fun M => sameW (by decide +kernel)

/-! the size of Apery rows: at most m - 1 generators each -/
theorem ap_not {L : List Int} {m : Nat} {A : List Int} (a : ApI L m A) {o : Int} (ho : o ∈ A) : ¬ Gen L (o - m) := fun h => by
  obtain ⟨r, hr, e⟩ := mem_getD ho
  rw [a.len] at hr
  have h2 := a.least _ h
  have e3 : (o - m) % (m : Int) = r := by rw [Int.sub_emod_right, ← e, (a.mem r hr).2]
  rw [e3, Int.toNat_natCast, e] at h2
  omega
theorem ap_in {L : List Int} {m : Nat} {A : List Int} (a : ApI L m A) (hm : 0 < m) (hg : Gen L m) {o : Int} (ho : Gen L o) (hn : ¬ Gen L (o - m)) : o ∈ A := by
  obtain ⟨j, hj⟩ := a.diff hm o
  have h1 := a.least o ho
  have hr := rest_lt hm o
  have hj0 : j = 0 := by
    rcases Int.lt_trichotomy j 0 with h | h | h
    · exfalso
      have := Int.mul_le_mul_of_nonneg_right (show j ≤ -1 by omega) (show (0 : Int) ≤ m by omega)
      omega
    · exact h
    · exfalso
      refine hn ?_
      have h2 : Gen L (((j - 1).toNat : Int) * m) := by
        have := hg.mul (j - 1).toNat
        exact this
      have h3 := (a.mem _ hr).1.plus h2
      rw [Int.toNat_of_nonneg (show 0 ≤ j - 1 by omega), Int.sub_mul, Int.one_mul, ← hj] at h3
      rw [show o - (m : Int) = A.getD (o % (m : Int)).toNat 0 + (o - A.getD (o % (m : Int)).toNat 0 - m) by omega]
      exact h3
  rw [hj0, Int.zero_mul] at hj
  have := getD_mem (A := A) (r := (o % (m : Int)).toNat) (by rw [a.len]; exact hr)
  rw [show o = A.getD (o % (m : Int)).toNat 0 by omega]
  exact this
def lessN (A : List Int) (w : Int) : Nat := (A.filter fun o => decide (o < w)).length
theorem lessN_lt {A : List Int} {v w : Int} (hv : v ∈ A) (h : v < w) : lessN A v < lessN A w := by
  unfold lessN
  induction A with
  | nil => cases hv
  | cons x r ih =>
    have mono : (r.filter fun o => decide (o < v)).length ≤ (r.filter fun o => decide (o < w)).length := by
      clear ih hv
      induction r with
      | nil => exact Nat.le_refl _
      | cons y s ih =>
        rw [List.filter_cons, List.filter_cons]
        by_cases h1 : y < v
        · rw [if_pos (decide_eq_true h1), if_pos (decide_eq_true (show y < w by omega)), List.length_cons, List.length_cons]
          omega
        · rw [if_neg (by rw [decide_eq_false h1]; decide)]
          split
          · rw [List.length_cons]; omega
          · exact ih
    rw [List.filter_cons, List.filter_cons]
    rcases List.mem_cons.mp hv with rfl | hv
    · rw [if_neg (by rw [decide_eq_false (show ¬ v < v by omega)]; decide), if_pos (decide_eq_true h), List.length_cons]
      omega
    · have ih := ih hv
      by_cases h1 : x < v
      · rw [if_pos (decide_eq_true h1), if_pos (decide_eq_true (show x < w by omega)), List.length_cons, List.length_cons]
        omega
      · rw [if_neg (by rw [decide_eq_false h1]; decide)]
        split
        · rw [List.length_cons]; omega
        · exact ih
theorem lessN_le {A : List Int} {w : Int} (hw : w ∈ A) : lessN A w + 1 ≤ A.length := by
  unfold lessN
  induction A with
  | nil => cases hw
  | cons x r ih =>
    rw [List.filter_cons, List.length_cons]
    have := List.length_filter_le (fun o => decide (o < w)) r
    rcases List.mem_cons.mp hw with rfl | hw
    · rw [if_neg (by rw [decide_eq_false (show ¬ w < w by omega)]; decide)]
      omega
    · have := ih hw
      split
      · rw [List.length_cons]; omega
      · omega
theorem ap_bd {L : List Int} {m : Nat} {A : List Int} (a : ApI L m A) (hm : 0 < m) (hg : Gen L m) (hp : PosL L) {B : Int} (hB : ∀ g ∈ L, g ≤ B) (hB0 : 0 ≤ B) : ∀ (n : Nat) (w : Int), w ≤ n → w ∈ A → w ≤ (lessN A w : Int) * B := by
  intro n
  induction n with
  | zero =>
    intro w h1 _
    have : 0 ≤ (lessN A w : Int) * B := Int.mul_nonneg (by omega) hB0
    omega
  | succ n ih =>
    intro w h1 hw
    obtain ⟨r, hr, e⟩ := mem_getD hw
    have hgw : Gen L w := by rw [← e]; exact (a.mem r (by rw [← a.len]; exact hr)).1
    rcases hgw.pred with h0 | ⟨g, hgL, h5⟩
    · have : 0 ≤ (lessN A w : Int) * B := Int.mul_nonneg (by omega) hB0
      omega
    · have hg0 := hp g hgL
      have hin : w - g ∈ A := ap_in a hm hg h5 fun h => ap_not a hw (by
        have := h.plus (.of_mem hgL)
        rw [show w - g - (m : Int) + g = w - m by omega] at this
        exact this)
      have h6 := ih (w - g) (by omega) hin
      have h7 := lessN_lt hin (show w - g < w by omega)
      have h8 := hB g hgL
      have h9 : ((lessN A (w - g) : Int) + 1) * B ≤ (lessN A w : Int) * B := Int.mul_le_mul_of_nonneg_right (by omega) hB0
      rw [Int.add_mul, Int.one_mul] at h9
      omega
theorem cond_bd2 {lot : List Int} {m : Nat} {A : List Int} (H : LotA lot m A) {B : Int} (hB : ∀ g ∈ lot, g ≤ B) (hB0 : 0 ≤ B) : condA m A ≤ ((m : Int) - 1) * B := by
  have hw := (maxLs_facts (H.ap.ne H.hm)).1
  have h1 := ap_bd H.ap H.hm H.gen H.pos hB hB0 (maxLs A).toNat (maxLs A) (by omega) hw
  have h2 := lessN_le hw
  rw [H.ap.len] at h2
  have h3 : (lessN A (maxLs A) : Int) * B ≤ ((m : Int) - 1) * B := Int.mul_le_mul_of_nonneg_right (by omega) hB0
  have := H.hm
  unfold condA
  omega

def Sm1 : SS :=
 (sAsg 2 false (sArgs F_law_lot_conductor (sCons (sVar 1) sNil)))
def Sm2 : SS :=
 (sAsg 3 false (sArgs F_law_lot_sums (sCons (sVar 1) (sCons (sBin .Add (sVar 2) (sCon (.int 60))) sNil))))
def Sm3 : SS :=
 (sAsg 4 false (sComp (sRng (sCons (sArgs lenOp (sCons (sVar 3) sNil)) sNil)) (.name 6) (sNotB (sB (sIdx (sVar 3) (sVar 6)))) (sVar 6) (([("k", 6)] : List (Str × Nat)).map (·.2))))
def Sm4 : SS :=
 (sIfS (sB (sCmp .NotEq (sSlice (sVar 4) (some (sNeg (sCon (.int 1)))) none) (sIf (sB (sCmp .Gt (sVar 2) (sCon (.int 0)))) (sLst (sCons (sBin .Sub (sVar 2) (sCon (.int 1))) sNil)) (sLst sNil))))
 (sSeq2 (sRet (sCon (.bl false)))
 sSkip)
 sSkip)
def Sm5 : SS :=
 (sIfS (sOrB (sNotB (sB (sArgs (F_law_same 8) (sCons (sArgs F_law_told (sCons (sCon (.int 1)) (sCons (sVar 1) (sCons (sCon .non) sNil)))) (sCons (sTup (sCons (sCon (.str "told")) (sCons (sVar 2) sNil))) sNil))))) (sOrB (sNotB (sB (sArgs (F_law_same 8) (sCons (sArgs F_law_told (sCons (sCon (.int 2)) (sCons (sVar 1) (sCons (sCon .non) sNil)))) (sCons (sTup (sCons (sCon (.str "told")) (sCons (sArgs lenOp (sCons (sVar 4) sNil)) sNil))) sNil))))) (sNotB (sB (sArgs (F_law_same 8) (sCons (sArgs F_law_told (sCons (sCon (.int 3)) (sCons (sVar 1) (sCons (sCon .non) sNil)))) (sCons (sTup (sCons (sCon (.str "told")) (sCons (sArgs tupleOp (sCons (sVar 4) sNil)) sNil))) sNil)))))))
 (sSeq2 (sRet (sCon (.bl false)))
 sSkip)
 sSkip)
def Sm6b : SS :=
 (sSeq2 (sAsg 6 false (sIf (sB (sCmp .Gt (sArgs F_law_take (sCons (sVar 0) (sCons (sCon (.int 4)) sNil))) (sCon (.int 0)))) (sArgs F_law_take (sCons (sVar 0) (sCons (sBin .Add (sVar 2) (sCon (.int 61))) sNil))) (sNeg (sArgs F_law_take (sCons (sVar 0) (sCons (sCon (.int 90)) sNil))))))
 (sSeq2 (sAsg 7 false (sArgs F_law_told (sCons (sCon (.int 4)) (sCons (sVar 1) (sCons (sVar 6) sNil)))))
 (sSeq2 (sIfS (sOrB (sB (sCmp .NotEq (sIdx (sVar 7) (sCon (.int 0))) (sCon (.str "told")))) (sNotB (sB (sArgs F_law_says (sCons (sIdx (sVar 7) (sCon (.int 1))) (sCons (sAnd (sCmp .GtE (sVar 6) (sCon (.int 0))) (sIdx (sVar 3) (sVar 6))) sNil))))))
 (sSeq2 (sRet (sCon (.bl false)))
 sSkip)
 sSkip)
 (sSeq2 (sIfS (sB (sChain .Lt .LtE (sCon (.int 0)) (sVar 6) (sCon (.int 1000))))
 (sSeq2 (sAsg 8 false (sIf (sB (sIdx (sVar 3) (sVar 6))) (sTup (sCons (sCon (.str "told")) (sCons (sArgs tupleOp (sCons (sArgs F_law_apery (sCons (sVar 1) (sCons (sVar 6) sNil))) sNil)) sNil))) (sTup (sCons (sCon (.str "malformed")) (sCons (sCon .non) sNil)))))
 (sSeq2 (sIfS (sNotB (sB (sArgs (F_law_same 8) (sCons (sArgs F_law_told (sCons (sCon (.int 5)) (sCons (sVar 1) (sCons (sVar 6) sNil)))) (sCons (sVar 8) sNil)))))
 (sSeq2 (sRet (sCon (.bl false)))
 sSkip)
 sSkip)
 sSkip))
 sSkip)
 sSkip))))
def Sm6 : SS := sFor (sRng (sCons (sCon (.int 8)) sNil)) (.name 5) Sm6b
def Sm7 : SS :=
 (sRet (sArgs (F_law_same 8) (sCons (sArgs F_law_told (sCons (sCon (.int 5)) (sCons (sVar 1) (sCons (sIdx (sVar 1) (sCon (.int 0))) sNil)))) (sCons (sTup (sCons (sCon (.str "told")) (sCons (sArgs tupleOp (sCons (sArgs F_law_apery (sCons (sVar 1) (sCons (sIdx (sVar 1) (sCon (.int 0))) sNil))) sNil)) sNil))) sNil))))
theorem T_law_small_right_eq : T_law_small_right = (sSeq2 Sm1 (sSeq2 Sm2 (sSeq2 Sm3 (sSeq2 Sm4 (sSeq2 Sm5 (sSeq2 Sm6 (sSeq2 Sm7 sSkip))))))) := rfl
def Sn1 : SS :=
 (sAsg 6 false (sIf (sB (sCmp .Gt (sArgs F_law_take (sCons (sVar 0) (sCons (sCon (.int 4)) sNil))) (sCon (.int 0)))) (sArgs F_law_take (sCons (sVar 0) (sCons (sBin .Add (sVar 2) (sCon (.int 61))) sNil))) (sNeg (sArgs F_law_take (sCons (sVar 0) (sCons (sCon (.int 90)) sNil))))))
def Sn2 : SS :=
 (sAsg 7 false (sArgs F_law_told (sCons (sCon (.int 4)) (sCons (sVar 1) (sCons (sVar 6) sNil)))))
def Sn3 : SS :=
 (sIfS (sOrB (sB (sCmp .NotEq (sIdx (sVar 7) (sCon (.int 0))) (sCon (.str "told")))) (sNotB (sB (sArgs F_law_says (sCons (sIdx (sVar 7) (sCon (.int 1))) (sCons (sAnd (sCmp .GtE (sVar 6) (sCon (.int 0))) (sIdx (sVar 3) (sVar 6))) sNil))))))
 (sSeq2 (sRet (sCon (.bl false)))
 sSkip)
 sSkip)
def Sn4 : SS :=
 (sIfS (sB (sChain .Lt .LtE (sCon (.int 0)) (sVar 6) (sCon (.int 1000))))
 (sSeq2 (sAsg 8 false (sIf (sB (sIdx (sVar 3) (sVar 6))) (sTup (sCons (sCon (.str "told")) (sCons (sArgs tupleOp (sCons (sArgs F_law_apery (sCons (sVar 1) (sCons (sVar 6) sNil))) sNil)) sNil))) (sTup (sCons (sCon (.str "malformed")) (sCons (sCon .non) sNil)))))
 (sSeq2 (sIfS (sNotB (sB (sArgs (F_law_same 8) (sCons (sArgs F_law_told (sCons (sCon (.int 5)) (sCons (sVar 1) (sCons (sVar 6) sNil)))) (sCons (sVar 8) sNil)))))
 (sSeq2 (sRet (sCon (.bl false)))
 sSkip)
 sSkip)
 sSkip))
 sSkip)
def Snb : SS := (sSeq2 Sn1 (sSeq2 Sn2 (sSeq2 Sn3 (sSeq2 Sn4 sSkip))))
theorem sm6b_eq : Sm6b = Snb := rfl
abbrev SmE (lot : List Int) (o2 o3 o4 o5 o6 o7 o8 : Option AV) : Env := [some (.cell 0), some (.d (ti lot)), o2, o3, o4, o5, o6, o7, o8]
theorem ne_frs (a b : List Int) (M : Mem) : cmpop .NotEq (.fr (a.map .int)) (.fr (b.map .int)) M = .ok (.d (.bl (!decide (a = b)))) M := by
  have e : cmpv .NotEq M (.fr (a.map .int)) (.fr (b.map .int)) = some (!D.eqv (.lst (a.map .int)) (.lst (b.map .int))) := by
    show (if ((D.lst (a.map .int)).ok && (D.lst (b.map .int)).ok) = true then _ else _) = _
    rw [ok_li, ok_li]
    rfl
  have e2 : D.eqv (.lst (a.map .int)) (.lst (b.map .int)) = decide (a = b) := eqvAll_ti a b
  unfold cmpop
  rw [e, e2]
theorem cut_last {α : Type} (s : List α) (x : α) : cutG (s ++ [x]) (some (-1)) none = [x] := by
  have e : HT.sIx (s ++ [x]).length 0 (some (-1)) = s.length := by
    show (if (-1 : Int) < 0 then ((-1 : Int) + ((s ++ [x]).length : Int)).toNat else min (-1 : Int).toNat (s ++ [x]).length) = s.length
    rw [if_pos (by decide), List.length_append, List.length_singleton]
    omega
  have e2 : HT.sIx (s ++ [x]).length (s ++ [x]).length none = (s ++ [x]).length := rfl
  unfold cutG
  rw [e, e2, List.length_append, List.length_singleton, show s.length + 1 - s.length = 1 by omega, List.drop_left]
  rfl
theorem idx_held {lot : List Int} {n : Nat} {k : Int} (h0 : 0 ≤ k) (h : k ≤ n) (M : Mem) : idx (.d (.lst (heldL lot n))) (.d (.int k)) M = .ok (.d (.bl (genB lot k))) M := by
  refine idx_lst (atI_int h0 ?_)
  rw [held_get _ (by omega), Int.toNat_of_nonneg h0]
section
variable {lot : List Int} {m c : Nat} {A : List Int} {M : Mem} {o2 o3 o4 o5 o6 o7 o8 : Option AV} (H : LotA lot m A) (hcc : lotC lot = true) (hc : condA m A = c) (h3 : c ≤ 3000)
include H hcc hc h3
theorem gaps_eq (j : Nat) : gapL lot (c + j) = gapL lot c := gapL_more (fun k hk => genB_iff.mpr (H.ap.cond_ge H.hm H.gen (by omega))) j
theorem sm1_ok : Sm1 (SmE lot o2 o3 o4 o5 o6 o7 o8) M = .ok (.next (SmE lot (some (.d (.int (c : Nat)))) o3 o4 o5 o6 o7 o8)) M := by
  have h := fun M => lcond_ok H (M := M)
  rw [hc] at h
  refine el_start ?_
  unfold Sm1
  repeat' (first | (wtm_at "mpA") | (with_reducible apply e_call (h _)) | (wtm_at "mp1"))
  rfl
theorem sm2_ok : Sm2 (SmE lot (some (.d (.int (c : Nat)))) o3 o4 o5 o6 o7 o8) M = .ok (.next (SmE lot (some (.d (.int (c : Nat)))) (some (.d (.lst (heldL lot (c + 60))))) o4 o5 o6 o7 o8)) M := by
  have h : ∀ M, F_law_lot_sums [.d (ti lot), .d (.int ((c : Nat) + 60))] M = .ok (.fr (heldL lot (c + 60))) M := fun M => by
    have := sums_ok (n := c + 60) H.pos (by have := H.len; omega) (by omega) (M := M)
    rw [Int.natCast_add] at this
    exact this
  refine el_start ?_
  unfold Sm2
  repeat' (first | (wtm_at "mpA") | (with_reducible apply e_call (h _)) | (wtm_at "mp1"))
  rfl
theorem sm3_ok : Sm3 (SmE lot o2 (some (.d (.lst (heldL lot (c + 60))))) o4 o5 o6 o7 o8) M = .ok (.next (SmE lot o2 (some (.d (.lst (heldL lot (c + 60))))) (some (.d (.lst ((gapL lot c).map .int)))) o5 o6 o7 o8)) M := by
  have l1 : ∀ M, lenOp [.d (.lst (heldL lot (c + 60)))] M = .ok (.d (.int ((c + 60 + 1 : Nat) : Int))) M := fun M => by
    show Out.ok (AV.d (.int ((heldL lot (c + 60)).length : Nat))) M = _
    rw [held_len]
  refine el_start ?_
  unfold Sm3
  repeat' (first | (wtm_at "mpA") | (with_reducible apply e_call (l1 _)) | (wtm_at "mp0"))
  refine e_compRF (fun k : Nat => .int (k : Int)) (fun k : Nat => !genB lot (k : Int)) (by omega) (fun k hk => ⟨_, rfl, el_start ?_, fun _ => ⟨_, rfl, rfl⟩⟩) ?_
  · have i1 := fun M => idx_held (lot := lot) (n := c + 60) (k := (k : Int)) (by omega) (by omega) M
    repeat' (first | (wtm_at "mpA") | (with_reducible apply p_idx (i1 _)) | (wtm_at "mp1"))
    rfl
  · have e : (((List.range (c + 60 + 1)).filter fun k : Nat => !genB lot (k : Int)).map fun k : Nat => D.int (k : Int)) = (gapL lot c).map .int := by
      rw [← gaps_eq H hcc hc h3 61]
      unfold gapL
      rw [List.map_map]
      rfl
    rw [e]
    repeat' (first | (wtm_at "mpA") | (wtm_at "mp1"))
    rfl
theorem sm4_ok : Sm4 (SmE lot (some (.d (.int (c : Nat)))) o3 (some (.d (.lst ((gapL lot c).map .int)))) o5 o6 o7 o8) M = .ok (.next (SmE lot (some (.d (.int (c : Nat)))) o3 (some (.d (.lst ((gapL lot c).map .int)))) o5 o6 o7 o8)) M := by
  refine el_start ?_
  unfold Sm4
  cases c with
  | zero =>
    have n0 : ¬ (0 : Int) < ((0 : Nat) : Int) := by decide
    repeat' (first | (wtm_at "mpA") | (wtm_at "mp1"))
    rfl
  | succ n =>
    have h0 : (0 : Int) < ((n + 1 : Nat) : Int) := by omega
    have hg : genB lot (n : Int) = false := by
      have := H.ap.cond_not H.hm
      rw [hc, show ((n + 1 : Nat) : Int) - 1 = n by omega] at this
      cases e : genB lot (n : Int) with
      | false => rfl
      | true => exact absurd (genB_iff.mp e) this
    rw [gapL_last hg]
    have cu : ∀ M, cutop (.d (.lst ((gapL lot n ++ [(n : Int)]).map .int))) (some (-1)) none M = .ok (.fr ([(n : Int)].map .int)) M := fun M => by
      show Out.ok (AV.fr (cutG ((gapL lot n ++ [(n : Int)]).map D.int) (some (-1)) none)) M = _
      rw [List.map_append, List.map_cons, List.map_nil, cut_last]
    have ne : ∀ M, cmpop .NotEq (.fr ([(n : Int)].map .int)) (.fr [.int (((n + 1 : Nat) : Int) - 1)]) M = .ok (.d (.bl false)) M := fun M => by
      have := ne_frs [(n : Int)] [((n + 1 : Nat) : Int) - 1] M
      rw [show ((n + 1 : Nat) : Int) - 1 = (n : Int) by omega] at this ⊢
      rw [decide_eq_true rfl] at this
      exact this
    generalize gapL lot n = G at *
    repeat' (first | (wtm_at "mpA") | (with_reducible apply p_cut (cu _)) | (with_reducible apply p_cmpE (ne _)) | (wtm_at "mp1"))
    rfl
end

section
variable {lot : List Int} {m c : Nat} {A : List Int} {M : Mem} {a b : Int} {Mt : Mem} {o2 o3 o4 o5 o6 o7 o8 : Option AV} (H : LotA lot m A) (hcc : lotC lot = true) (hc : condA m A = c) (h3 : c ≤ 3000)
include H hcc hc h3
theorem gl_len : (gapL lot c).length ≤ 3000 := by
  unfold gapL
  rw [List.length_map]
  have := List.length_filter_le (fun k : Nat => !genB lot (k : Int)) (List.range c)
  rw [List.length_range] at this
  omega
theorem t1_ok (M : Mem) : F_law_told [.d (.int 1), .d (ti lot), .d .non] M = .ok (.d (.tup [.str "told", .int (c : Nat)])) M := told1 (by rw [lcon_ok H, hc]) (oddI (n := 7))
theorem t2_ok (M : Mem) : F_law_told [.d (.int 2), .d (ti lot), .d .non] M = .ok (.d (.tup [.str "told", .int ((gapL lot c).length : Nat)])) M := told2 (by rw [lgen_ok H, hc, Int.toNat_natCast, gapL_len]) (oddI (n := 7))
theorem t3_ok (M : Mem) : F_law_told [.d (.int 3), .d (ti lot), .d .non] M = .ok (.d (.tup [.str "told", ti (gapL lot c)])) M := told3 (by rw [lgaps_ok H hc h3, gaps_eq H hcc hc h3 1]) (odd_ti (n := 6) (by have := gl_len H hcc hc h3; omega))
theorem sm5_ok : Sm5 (SmE lot (some (.d (.int (c : Nat)))) o3 (some (.d (.lst ((gapL lot c).map .int)))) o5 o6 o7 o8) M = .ok (.next (SmE lot (some (.d (.int (c : Nat)))) o3 (some (.d (.lst ((gapL lot c).map .int)))) o5 o6 o7 o8)) M := by
  have t1 := t1_ok H hcc hc h3
  have t2 := t2_ok H hcc hc h3
  have t3 := t3_ok H hcc hc h3
  have hl := gl_len H hcc hc h3
  generalize gapL lot c = G at *
  have y1 := fun M => same_toldI (x := (c : Nat)) (M := M)
  have y2 := fun M => same_toldI (x := (G.length : Nat)) (M := M)
  have y3 := fun M => same_toldT (c := G) (by omega) (M := M)
  have l1 : ∀ M, lenOp [.d (.lst (G.map .int))] M = .ok (.d (.int (G.length : Nat))) M := fun M => by
    show Out.ok (AV.d (.int ((G.map D.int).length : Nat))) M = _
    rw [List.length_map]
  have tp : ∀ M, tupleOp [.d (.lst (G.map .int))] M = .ok (.d (ti G)) M := fun M => tup_lst
  refine el_start ?_
  unfold Sm5
  repeat' (first | (wtm_at "mpA") | (with_reducible apply e_call (t1 _)) | (with_reducible apply e_call (y1 _)) | (with_reducible apply e_call (t2 _)) | (with_reducible apply e_call (l1 _)) | (with_reducible apply e_call (y2 _)) | (with_reducible apply e_call (t3 _)) | (with_reducible apply e_call (tp _)) | (with_reducible apply e_call (y3 _)) | (wtm_at "mp1"))
  rfl
theorem t4_ok (k : Int) (M : Mem) : F_law_told [.d (.int 4), .d (ti lot), .d (.int k)] M = .ok (.d (.tup [.str "told", .bl (genB lot k)])) M := told4 (lholds_ok H) (oddB (n := 7))
theorem sn1_ok : ∃ (k a' b' : Int), Sn1 (SmE lot (some (.d (.int (c : Nat)))) o3 o4 o5 o6 o7 o8) (St a b Mt) = .ok (.next (SmE lot (some (.d (.int (c : Nat)))) o3 o4 o5 (some (.d (.int k))) o7 o8)) (St a' b' Mt) ∧ k ≤ (c : Nat) + 60 := by
  obtain ⟨r1, a1, b1, e1, f1⟩ := take_ok (m := 4) (a := a) (b := b) (Mt := Mt) (by decide)
  by_cases hz : 0 < r1
  · obtain ⟨r2, a2, b2, e2, f2⟩ := take_ok (m := (c : Nat) + 61) (a := a1) (b := b1) (Mt := Mt) (by omega)
    refine ⟨r2, a2, b2, el_start ?_, by omega⟩
    unfold Sn1
    repeat' (first | (wtm_at "mpA") | (with_reducible apply e_call e1) | (with_reducible apply e_call e2) | (wtm_at "mp1"))
    rfl
  · obtain ⟨r2, a2, b2, e2, f2⟩ := take_ok (m := 90) (a := a1) (b := b1) (Mt := Mt) (by decide)
    refine ⟨-r2, a2, b2, el_start ?_, by omega⟩
    unfold Sn1
    repeat' (first | (wtm_at "mpA") | (with_reducible apply e_call e1) | (with_reducible apply e_call e2) | (wtm_at "mp1"))
    rfl
theorem sn2_ok {k : Int} : Sn2 (SmE lot o2 o3 o4 o5 (some (.d (.int k))) o7 o8) M = .ok (.next (SmE lot o2 o3 o4 o5 (some (.d (.int k))) (some (.d (.tup [.str "told", .bl (genB lot k)]))) o8)) M := by
  have t := t4_ok H hcc hc h3 k
  refine el_start ?_
  unfold Sn2
  repeat' (first | (wtm_at "mpA") | (with_reducible apply e_call (t _)) | (wtm_at "mp1"))
  rfl
theorem sn3_ok {k : Int} (hk : k ≤ (c : Nat) + 60) : Sn3 (SmE lot o2 (some (.d (.lst (heldL lot (c + 60))))) o4 o5 (some (.d (.int k))) (some (.d (.tup [.str "told", .bl (genB lot k)]))) o8) M = .ok (.next (SmE lot o2 (some (.d (.lst (heldL lot (c + 60))))) o4 o5 (some (.d (.int k))) (some (.d (.tup [.str "told", .bl (genB lot k)]))) o8)) M := by
  have y : ∀ M, F_law_says [.d (.bl (genB lot k)), .d (.bl (genB lot k))] M = .ok (.d (.bl true)) M := fun M => by rw [says_ok, beq_self_eq_true]
  refine el_start ?_
  unfold Sn3
  by_cases h0 : 0 ≤ k
  · have i1 := fun M => idx_held (lot := lot) (n := c + 60) (k := k) h0 (by omega) M
    repeat' (first | (wtm_at "mpA") | (with_reducible apply p_idx (i1 _)) | (with_reducible apply e_call (y _)) | (wtm_at "mp1"))
    rfl
  · rw [genB_neg H.pos (show k < 0 by omega)] at y ⊢
    repeat' (first | (wtm_at "mpA") | (with_reducible apply e_call (y _)) | (wtm_at "mp1"))
    rfl
theorem sn4_ok {k : Int} (hk : k ≤ (c : Nat) + 60) : ∃ o8', Sn4 (SmE lot o2 (some (.d (.lst (heldL lot (c + 60))))) o4 o5 (some (.d (.int k))) o7 o8) M = .ok (.next (SmE lot o2 (some (.d (.lst (heldL lot (c + 60))))) o4 o5 (some (.d (.int k))) o7 o8')) M := by
  by_cases h0 : 0 < k
  · by_cases h1 : k ≤ 1000
    · have i1 := fun M => idx_held (lot := lot) (n := c + 60) (k := k) (by omega) (by omega) M
      obtain ⟨n, rfl⟩ : ∃ n : Nat, k = n := ⟨k.toNat, (Int.toNat_of_nonneg (by omega)).symm⟩
      cases hg : genB lot (n : Int) with
      | true =>
        rw [hg] at i1
        obtain ⟨B, aB, b1, b2⟩ := ap_row H hcc (k := n) (by omega) (by omega)
        have hBl : B.length ≤ 90000 := by rw [aB.len]; omega
        have t : ∀ M, F_law_told [.d (.int 5), .d (ti lot), .d (.int (n : Nat))] M = .ok (.d (.tup [.str "told", ti B])) M := fun M => told5 (lap_ok H b1 (by omega) (by omega) hg) (odd_ti (n := 6) hBl)
        have y := fun M => same_toldT (c := B) hBl (M := M)
        have tp : ∀ M, tupleOp [.d (.lst (B.map .int))] M = .ok (.d (ti B)) M := fun M => tup_lst
        refine ⟨some (.d (.tup [.str "told", ti B])), el_start ?_⟩
        unfold Sn4
        repeat' (first | (wtm_at "mpA") | (with_reducible apply p_idx (i1 _)) | (with_reducible apply e_call (b2 _)) | (with_reducible apply e_call (tp _)) | (with_reducible apply e_call (t _)) | (with_reducible apply e_call (y _)) | (wtm_at "mp1"))
        rfl
      | false =>
        rw [hg] at i1
        have t : ∀ M, F_law_told [.d (.int 5), .d (ti lot), .d (.int (n : Nat))] M = .ok (.d (.tup [.str "malformed", .non])) M := fun M => told5M (lap_not H hg)
        have y := fun M => same_mal (M := M)
        refine ⟨some (.d (.tup [.str "malformed", .non])), el_start ?_⟩
        unfold Sn4
        repeat' (first | (wtm_at "mpA") | (with_reducible apply p_idx (i1 _)) | (with_reducible apply e_call (t _)) | (with_reducible apply e_call (y _)) | (wtm_at "mp1"))
        rfl
    · refine ⟨o8, el_start ?_⟩
      unfold Sn4
      repeat' (first | (wtm_at "mpA") | (wtm_at "mp1"))
      rfl
  · refine ⟨o8, el_start ?_⟩
    unfold Sn4
    repeat' (first | (wtm_at "mpA") | (wtm_at "mp1"))
    rfl
theorem sm6_ok : ∃ o5' o6' o7' o8' a' b', Sm6 (SmE lot (some (.d (.int (c : Nat)))) (some (.d (.lst (heldL lot (c + 60))))) o4 o5 o6 o7 o8) (St a b Mt) = .ok (.next (SmE lot (some (.d (.int (c : Nat)))) (some (.d (.lst (heldL lot (c + 60))))) o4 o5' o6' o7' o8')) (St a' b' Mt) := by
  obtain ⟨env', M', e, o5', o6', o7', o8', a', b', rfl, rfl⟩ := for_ok (body := Sm6b) (tg := .name 5) (I := fun env M' => ∃ o5 o6 o7 o8 a b, env = SmE lot (some (.d (.int (c : Nat)))) (some (.d (.lst (heldL lot (c + 60))))) o4 o5 o6 o7 o8 ∧ M' = St a b Mt) (rngL 0 8) (fun d hd env M' h => by
    obtain ⟨o5, o6, o7, o8, a, b, rfl, rfl⟩ := h
    obtain ⟨k, a1, b1, e1, hk⟩ := sn1_ok H hcc hc h3 (a := a) (b := b) (Mt := Mt) (o3 := some (.d (.lst (heldL lot (c + 60))))) (o4 := o4) (o5 := some (.d d)) (o6 := o6) (o7 := o7) (o8 := o8)
    have e2 := sn2_ok H hcc hc h3 (M := St a1 b1 Mt) (o2 := some (.d (.int (c : Nat)))) (o3 := some (.d (.lst (heldL lot (c + 60))))) (o4 := o4) (o5 := some (.d d)) (o7 := o7) (o8 := o8) (k := k)
    have e3 := sn3_ok H hcc hc h3 (M := St a1 b1 Mt) (o2 := some (.d (.int (c : Nat)))) (o4 := o4) (o5 := some (.d d)) (o8 := o8) hk
    obtain ⟨o8', e4⟩ := sn4_ok H hcc hc h3 (M := St a1 b1 Mt) (o2 := some (.d (.int (c : Nat)))) (o4 := o4) (o5 := some (.d d)) (o7 := some (.d (.tup [.str "told", .bl (genB lot k)]))) (o8 := o8) hk
    exact ⟨_, _, _, rfl, (el_start (e_stmt e1 (e_stmt e2 (e_stmt e3 (e_stmt e4 rfl)))) : Snb _ _ = _), _, _, _, _, _, _, rfl, rfl⟩) (SmE lot (some (.d (.int (c : Nat)))) (some (.d (.lst (heldL lot (c + 60))))) o4 o5 o6 o7 o8) (St a b Mt) ⟨_, _, _, _, _, _, rfl, rfl⟩
  refine ⟨o5', o6', o7', o8', a', b', el_start ?_⟩
  unfold Sm6
  repeat' (first | (wtm_at "mpA") | (with_reducible refine o_rngN (n := 8) (by decide) ?_) | (wtm_at "mp0"))
  refine e_is e ?_
  rfl
theorem small_right : ∃ a' b', F_law_small_right [.cell 0, .d (ti lot)] (St a b Mt) = .ok (.d (.bl true)) (St a' b' Mt) := by
  have e1 := sm1_ok H hcc hc h3 (M := St a b Mt) (o2 := none) (o3 := none) (o4 := none) (o5 := none) (o6 := none) (o7 := none) (o8 := none)
  have e2 := sm2_ok H hcc hc h3 (M := St a b Mt) (o3 := none) (o4 := none) (o5 := none) (o6 := none) (o7 := none) (o8 := none)
  have e3 := sm3_ok H hcc hc h3 (M := St a b Mt) (o2 := some (.d (.int (c : Nat)))) (o4 := none) (o5 := none) (o6 := none) (o7 := none) (o8 := none)
  have e4 := sm4_ok H hcc hc h3 (M := St a b Mt) (o3 := some (.d (.lst (heldL lot (c + 60))))) (o5 := none) (o6 := none) (o7 := none) (o8 := none)
  have e5 := sm5_ok H hcc hc h3 (M := St a b Mt) (o3 := some (.d (.lst (heldL lot (c + 60))))) (o5 := none) (o6 := none) (o7 := none) (o8 := none)
  obtain ⟨o5', o6', o7', o8', a', b', e6⟩ := sm6_ok H hcc hc h3 (a := a) (b := b) (Mt := Mt) (o4 := some (.d (.lst ((gapL lot c).map .int)))) (o5 := none) (o6 := none) (o7 := none) (o8 := none)
  have hm := H.hm
  have hm2 := H.hm2
  have hBl : A.length ≤ 90000 := by rw [H.ap.len]; omega
  have t : ∀ M, F_law_told [.d (.int 5), .d (ti lot), .d (.int (m : Nat))] M = .ok (.d (.tup [.str "told", ti A])) M := fun M => told5 (lap_ok H H.p (by omega) (by omega) (genB_iff.mpr H.gen)) (odd_ti (n := 6) hBl)
  have y := fun M => same_toldT (c := A) hBl (M := M)
  have tp : ∀ M, tupleOp [.d (.lst (A.map .int))] M = .ok (.d (ti A)) M := fun M => tup_lst
  refine ⟨a', b', ?_⟩
  unfold F_law_small_right
  refine e_fn rfl ?_
  rw [T_law_small_right_eq]
  refine e_stmt (e1 : Sm1 _ _ = _) ?_
  refine e_stmt e2 ?_
  refine e_stmt e3 ?_
  refine e_stmt e4 ?_
  refine e_stmt e5 ?_
  refine e_stmt e6 ?_
  unfold Sm7
  repeat' (first | (wtm_at "mpA") | (with_reducible apply p_idx (H.i0 _)) | (with_reducible apply e_call (t _)) | (with_reducible apply e_call (H.l _)) | (with_reducible apply e_call (tp _)) | (with_reducible apply e_call (y _)) | (wtm_at "mp1"))
  exact r_dT
end

def Gr1 : SS :=
 (sPar2 4 5 false false (sArgs F_law_lot_conductor (sCons (sVar 1) sNil)) (sArgs F_law_apery (sCons (sVar 1) (sCons (sIdx (sVar 1) (sCon (.int 0))) sNil))))
def Gr2 : SS :=
 (sAsg 2 false (sIdx (sVar 1) (sCon (.int 0))))
def Gr3 : SS :=
 (sIfS (sOrB (sNotB (sB (sArgs (F_law_same 8) (sCons (sArgs F_law_told (sCons (sCon (.int 1)) (sCons (sVar 1) (sCons (sCon .non) sNil)))) (sCons (sTup (sCons (sCon (.str "told")) (sCons (sVar 4) sNil))) sNil))))) (sNotB (sB (sArgs (F_law_same 8) (sCons (sArgs F_law_told (sCons (sCon (.int 2)) (sCons (sVar 1) (sCons (sCon .non) sNil)))) (sCons (sTup (sCons (sCon (.str "told")) (sCons (sArgs sumOp (sCons (sComp (sSeq (sVar 5)) (.name 8) sYes (sBin .FloorDiv (sVar 8) (sVar 2)) (([("w", 8)] : List (Str × Nat)).map (·.2))) sNil)) sNil))) sNil))))))
 (sSeq2 (sRet (sCon (.bl false)))
 sSkip)
 sSkip)
def Gr4 : SS :=
 (sIfS (sAndB (sB (sCmp .Gt (sVar 4) (sCon (.int 3000)))) (sNotB (sB (sArgs (F_law_same 8) (sCons (sArgs F_law_told (sCons (sCon (.int 3)) (sCons (sVar 1) (sCons (sCon .non) sNil)))) (sCons (sTup (sCons (sCon (.str "refused")) (sCons (sCon (.str "large")) sNil))) sNil))))))
 (sSeq2 (sRet (sCon (.bl false)))
 sSkip)
 sSkip)
def Gr5b : SS :=
 (sSeq2 (sAsg 6 false (sBin .Sub (sBin .Sub (sVar 4) (sCon (.int 1))) (sArgs F_law_take (sCons (sVar 0) (sCons (sBin .Mult (sCon (.int 5)) (sVar 2)) sNil)))))
 (sSeq2 (sAsg 7 false (sArgs F_law_told (sCons (sCon (.int 4)) (sCons (sVar 1) (sCons (sVar 6) sNil)))))
 (sSeq2 (sIfS (sOrB (sB (sCmp .NotEq (sIdx (sVar 7) (sCon (.int 0))) (sCon (.str "told")))) (sNotB (sB (sArgs F_law_says (sCons (sIdx (sVar 7) (sCon (.int 1))) (sCons (sAnd (sCmp .GtE (sVar 6) (sCon (.int 0))) (sCmp .LtE (sIdx (sVar 5) (sBin .Mod (sArgs intOp (sCons (sVar 6) sNil)) (sVar 2))) (sVar 6))) sNil))))))
 (sSeq2 (sRet (sCon (.bl false)))
 sSkip)
 sSkip)
 sSkip)))
def Gr5 : SS := sFor (sRng (sCons (sCon (.int 6)) sNil)) (.name 3) Gr5b
def Gr6 : SS :=
 (sRet (sCon (.bl true)))
theorem T_law_great_right_eq : T_law_great_right = (sSeq2 Gr1 (sSeq2 Gr2 (sSeq2 Gr3 (sSeq2 Gr4 (sSeq2 Gr5 (sSeq2 Gr6 sSkip)))))) := rfl
def Gs1 : SS :=
 (sAsg 6 false (sBin .Sub (sBin .Sub (sVar 4) (sCon (.int 1))) (sArgs F_law_take (sCons (sVar 0) (sCons (sBin .Mult (sCon (.int 5)) (sVar 2)) sNil)))))
def Gs2 : SS :=
 (sAsg 7 false (sArgs F_law_told (sCons (sCon (.int 4)) (sCons (sVar 1) (sCons (sVar 6) sNil)))))
def Gs3 : SS :=
 (sIfS (sOrB (sB (sCmp .NotEq (sIdx (sVar 7) (sCon (.int 0))) (sCon (.str "told")))) (sNotB (sB (sArgs F_law_says (sCons (sIdx (sVar 7) (sCon (.int 1))) (sCons (sAnd (sCmp .GtE (sVar 6) (sCon (.int 0))) (sCmp .LtE (sIdx (sVar 5) (sBin .Mod (sArgs intOp (sCons (sVar 6) sNil)) (sVar 2))) (sVar 6))) sNil))))))
 (sSeq2 (sRet (sCon (.bl false)))
 sSkip)
 sSkip)
def Gsb : SS := (sSeq2 Gs1 (sSeq2 Gs2 (sSeq2 Gs3 sSkip)))
theorem gen_sum {L : List Int} {m : Nat} {A : List Int} (a : ApI L m A) (hm : 0 < m) (hg : Gen L m) (hp : PosL L) {N : Nat} (hN : condA m A ≤ N) : (A.map fun w => w / (m : Int)).sum = gapN L N := by
  rw [gap_sum a hm hg hp hN, sum_getD, List.length_map, a.len]
  refine sg_congr fun r hr => ?_
  have h2 := (a.mem r hr).2
  have h4 := Int.mul_ediv_add_emod (A.getD r 0) m
  have h5 : (A.getD r 0 - r) / m = A.getD r 0 / m := by
    have : A.getD r 0 - r = (A.getD r 0 / m) * m := by rw [Int.mul_comm]; omega
    rw [this]
    exact Int.mul_ediv_cancel _ (by omega)
  rw [h5, List.getD_eq_getElem?_getD, List.getD_eq_getElem?_getD, List.getElem?_map, List.getElem?_eq_getElem (by rw [a.len]; exact hr)]
  rfl
abbrev GrE (lot : List Int) (o2 o3 o4 o5 o6 o7 o8 : Option AV) : Env := [some (.cell 0), some (.d (ti lot)), o2, o3, o4, o5, o6, o7, o8]
section
variable {lot : List Int} {m c : Nat} {A : List Int} {M : Mem} {a b : Int} {Mt : Mem} {o2 o3 o4 o5 o6 o7 o8 : Option AV} (H : LotA lot m A) (hc : condA m A = c)
include H hc
theorem gr1_ok : Gr1 (GrE lot o2 o3 o4 o5 o6 o7 o8) M = .ok (.next (GrE lot o2 o3 (some (.d (.int (c : Nat)))) (some (.d (.lst (A.map .int)))) o6 o7 o8)) M := by
  have h := fun M => lcond_ok H (M := M)
  rw [hc] at h
  refine el_start ?_
  unfold Gr1
  repeat' (first | (wtm_at "mpA") | (with_reducible apply e_call (h _)) | (with_reducible apply p_idx (H.i0 _)) | (with_reducible apply e_call (H.l _)) | (wtm_at "mp1"))
  rfl
theorem gr2_ok : Gr2 (GrE lot o2 o3 o4 o5 o6 o7 o8) M = .ok (.next (GrE lot (some (.d (.int (m : Nat)))) o3 o4 o5 o6 o7 o8)) M := by
  refine el_start ?_
  unfold Gr2
  repeat' (first | (wtm_at "mpA") | (with_reducible apply p_idx (H.i0 _)) | (wtm_at "mp1"))
  rfl
theorem gr3_ok : Gr3 (GrE lot (some (.d (.int (m : Nat)))) o3 (some (.d (.int (c : Nat)))) (some (.d (.lst (A.map .int)))) o6 o7 o8) M = .ok (.next (GrE lot (some (.d (.int (m : Nat)))) o3 (some (.d (.int (c : Nat)))) (some (.d (.lst (A.map .int)))) o6 o7 o8)) M := by
  have hm := H.hm
  have hm2 := H.hm2
  have hl := A_len H
  have t1 : ∀ M, F_law_told [.d (.int 1), .d (ti lot), .d .non] M = .ok (.d (.tup [.str "told", .int (c : Nat)])) M := fun M => told1 (by rw [lcon_ok H, hc]) (oddI (n := 7))
  have t2 : ∀ M, F_law_told [.d (.int 2), .d (ti lot), .d .non] M = .ok (.d (.tup [.str "told", .int (gapN lot c)])) M := fun M => told2 (by rw [lgen_ok H, hc, Int.toNat_natCast]) (oddI (n := 7))
  have gs := gen_sum H.ap H.hm H.gen H.pos (N := c) (by omega)
  have y1 := fun M => same_toldI (x := (c : Nat)) (M := M)
  have y2 := fun M => same_toldI (x := gapN lot c) (M := M)
  refine el_start ?_
  unfold Gr3
  repeat' (first | (wtm_at "mpA") | (with_reducible apply e_call (t1 _)) | (with_reducible apply e_call (y1 _)) | (with_reducible apply e_call (t2 _)) | (wtm_at "mp0"))
  refine e_compA (φ := D.int) A (fun w => .int (w / (m : Int))) (fun w hw => ⟨_, rfl, .d (.int (w / (m : Int))), el_start ?_, rfl⟩) (by omega) ?_
  · have dv : ∀ M, binop .FloorDiv (opnd M (.d (.int w))) (opnd M (.d (.int (m : Nat)))) M = .ok (.d (.int (w / (m : Nat)))) M := fun M => div_eq (by omega) (by omega) rfl M
    repeat' (first | (wtm_at "mpA") | (with_reducible apply p_bin (dv _)) | (wtm_at "mp1"))
    rfl
  · have e : A.map (fun w => D.int (w / (m : Int))) = (A.map fun w => w / (m : Int)).map .int := by rw [List.map_map]; rfl
    rw [e]
    have sm : ∀ M, sumOp [.d (.lst ((A.map fun w => w / (m : Int)).map .int))] M = .ok (.d (.int (gapN lot c))) M := fun M => by rw [sum_ints, gs]
    repeat' (first | (wtm_at "mpA") | (with_reducible apply e_call (sm _)) | (with_reducible apply e_call (y2 _)) | (wtm_at "mp1"))
    rfl
theorem gr4_ok : Gr4 (GrE lot o2 o3 (some (.d (.int (c : Nat)))) o5 o6 o7 o8) M = .ok (.next (GrE lot o2 o3 (some (.d (.int (c : Nat)))) o5 o6 o7 o8)) M := by
  refine el_start ?_
  unfold Gr4
  by_cases h : (3000 : Int) < (c : Nat)
  · have t3 : ∀ M, F_law_told [.d (.int 3), .d (ti lot), .d .non] M = .ok (.d (.tup [.str "refused", .str "large"])) M := fun M => told3L (lgaps_large H (by omega))
    have y := fun M => same_large (M := M)
    repeat' (first | (wtm_at "mpA") | (with_reducible apply e_call (t3 _)) | (with_reducible apply e_call (y _)) | (wtm_at "mp1"))
    rfl
  · repeat' (first | (wtm_at "mpA") | (wtm_at "mp1"))
    rfl
theorem gs1_ok : ∃ (k a' b' : Int), Gs1 (GrE lot (some (.d (.int (m : Nat)))) o3 (some (.d (.int (c : Nat)))) o5 o6 o7 o8) (St a b Mt) = .ok (.next (GrE lot (some (.d (.int (m : Nat)))) o3 (some (.d (.int (c : Nat)))) o5 (some (.d (.int k))) o7 o8)) (St a' b' Mt) := by
  have hm := H.hm
  have hm2 := H.hm2
  obtain ⟨r1, a1, b1, e1, f1⟩ := take_ok (m := 5 * (m : Nat)) (a := a) (b := b) (Mt := Mt) (by omega)
  refine ⟨(c : Nat) - 1 - r1, a1, b1, el_start ?_⟩
  unfold Gs1
  repeat' (first | (wtm_at "mpA") | (with_reducible apply e_call e1) | (wtm_at "mp1"))
  rfl
theorem gs2_ok {k : Int} : Gs2 (GrE lot o2 o3 o4 o5 (some (.d (.int k))) o7 o8) M = .ok (.next (GrE lot o2 o3 o4 o5 (some (.d (.int k))) (some (.d (.tup [.str "told", .bl (genB lot k)]))) o8)) M := by
  have t : ∀ M, F_law_told [.d (.int 4), .d (ti lot), .d (.int k)] M = .ok (.d (.tup [.str "told", .bl (genB lot k)])) M := fun M => told4 (lholds_ok H) (oddB (n := 7))
  refine el_start ?_
  unfold Gs2
  repeat' (first | (wtm_at "mpA") | (with_reducible apply e_call (t _)) | (wtm_at "mp1"))
  rfl
theorem gs3_ok {k : Int} : Gs3 (GrE lot (some (.d (.int (m : Nat)))) o3 o4 (some (.d (.lst (A.map .int)))) (some (.d (.int k))) (some (.d (.tup [.str "told", .bl (genB lot k)]))) o8) M = .ok (.next (GrE lot (some (.d (.int (m : Nat)))) o3 o4 (some (.d (.lst (A.map .int)))) (some (.d (.int k))) (some (.d (.tup [.str "told", .bl (genB lot k)]))) o8)) M := by
  have hm := H.hm
  have hl := A_len H
  have y : ∀ M, F_law_says [.d (.bl (genB lot k)), .d (.bl (genB lot k))] M = .ok (.d (.bl true)) M := fun M => by rw [says_ok, beq_self_eq_true]
  refine el_start ?_
  unfold Gs3
  by_cases h0 : 0 ≤ k
  · have r0 := Int.emod_nonneg k (show ((m : Nat) : Int) ≠ 0 by omega)
    have r1 := Int.emod_lt_of_pos k (show (0 : Int) < (m : Nat) by omega)
    have i1 : ∀ M, idx (.d (.lst (A.map .int))) (.d (.int (k % (m : Nat)))) M = .ok (.d (.int (A.getD (k % m).toNat 0))) M := fun M => idx_li r0 (by omega)
    have gm := gen_modI H k
    rw [← gm] at y ⊢
    repeat' (first | (wtm_at "mpA") | (with_reducible apply p_idx (i1 _)) | (with_reducible apply e_call (y _)) | (wtm_at "mp1"))
    rfl
  · rw [genB_neg H.pos (show k < 0 by omega)] at y ⊢
    repeat' (first | (wtm_at "mpA") | (with_reducible apply e_call (y _)) | (wtm_at "mp1"))
    rfl
theorem gr5_ok : ∃ o3' o6' o7' a' b', Gr5 (GrE lot (some (.d (.int (m : Nat)))) o3 (some (.d (.int (c : Nat)))) (some (.d (.lst (A.map .int)))) o6 o7 o8) (St a b Mt) = .ok (.next (GrE lot (some (.d (.int (m : Nat)))) o3' (some (.d (.int (c : Nat)))) (some (.d (.lst (A.map .int)))) o6' o7' o8)) (St a' b' Mt) := by
  obtain ⟨env', M', e, o3', o6', o7', a', b', rfl, rfl⟩ := for_ok (body := Gr5b) (tg := .name 3) (I := fun env M' => ∃ o3 o6 o7 a b, env = GrE lot (some (.d (.int (m : Nat)))) o3 (some (.d (.int (c : Nat)))) (some (.d (.lst (A.map .int)))) o6 o7 o8 ∧ M' = St a b Mt) (rngL 0 6) (fun d hd env M' h => by
    obtain ⟨o3, o6, o7, a, b, rfl, rfl⟩ := h
    obtain ⟨k, a1, b1, e1⟩ := gs1_ok H hc (a := a) (b := b) (Mt := Mt) (o3 := some (.d d)) (o5 := some (.d (.lst (A.map .int)))) (o6 := o6) (o7 := o7) (o8 := o8)
    have e2 := gs2_ok H hc (M := St a1 b1 Mt) (o2 := some (.d (.int (m : Nat)))) (o3 := some (.d d)) (o4 := some (.d (.int (c : Nat)))) (o5 := some (.d (.lst (A.map .int)))) (o7 := o7) (o8 := o8) (k := k)
    have e3 := gs3_ok H hc (M := St a1 b1 Mt) (o3 := some (.d d)) (o4 := some (.d (.int (c : Nat)))) (o8 := o8) (k := k)
    exact ⟨_, _, _, rfl, (el_start (e_stmt e1 (e_stmt e2 (e_stmt e3 rfl))) : Gsb _ _ = _), _, _, _, _, _, rfl, rfl⟩) (GrE lot (some (.d (.int (m : Nat)))) o3 (some (.d (.int (c : Nat)))) (some (.d (.lst (A.map .int)))) o6 o7 o8) (St a b Mt) ⟨_, _, _, _, _, rfl, rfl⟩
  refine ⟨o3', o6', o7', a', b', el_start ?_⟩
  unfold Gr5
  repeat' (first | (wtm_at "mpA") | (with_reducible refine o_rngN (n := 6) (by decide) ?_) | (wtm_at "mp0"))
  refine e_is e ?_
  rfl
theorem great_right : ∃ a' b', F_law_great_right [.cell 0, .d (ti lot)] (St a b Mt) = .ok (.d (.bl true)) (St a' b' Mt) := by
  have e1 := gr1_ok H hc (M := St a b Mt) (o2 := none) (o3 := none) (o4 := none) (o5 := none) (o6 := none) (o7 := none) (o8 := none)
  have e2 := gr2_ok H hc (M := St a b Mt) (o2 := none) (o3 := none) (o4 := some (.d (.int (c : Nat)))) (o5 := some (.d (.lst (A.map .int)))) (o6 := none) (o7 := none) (o8 := none)
  have e3 := gr3_ok H hc (M := St a b Mt) (o3 := none) (o6 := none) (o7 := none) (o8 := none)
  have e4 := gr4_ok H hc (M := St a b Mt) (o2 := some (.d (.int (m : Nat)))) (o3 := none) (o5 := some (.d (.lst (A.map .int)))) (o6 := none) (o7 := none) (o8 := none)
  obtain ⟨o3', o6', o7', a', b', e5⟩ := gr5_ok H hc (a := a) (b := b) (Mt := Mt) (o3 := none) (o6 := none) (o7 := none) (o8 := none)
  refine ⟨a', b', ?_⟩
  unfold F_law_great_right
  refine e_fn rfl ?_
  rw [T_law_great_right_eq]
  refine e_stmt (e1 : Gr1 _ _ = _) ?_
  refine e_stmt e2 ?_
  refine e_stmt e3 ?_
  refine e_stmt e4 ?_
  refine e_stmt e5 ?_
  unfold Gr6
  repeat' (first | (wtm_at "mpA") | (wtm_at "mp1"))
  exact r_dT
end

def Va1 : SS :=
 (sAsg 2 false (sArgs F_law_take (sCons (sVar 0) (sCons (sArgs lenOp (sCons (sVar 1) sNil)) sNil))))
def Va2 : SS :=
 (sAsg 3 false (sLst (sCons (sVar 1) (sCons (sArgs listOp (sCons (sVar 1) sNil)) (sCons (sRev (sVar 1)) (sCons (sSlice (sVar 1) none (some (sNeg (sCon (.int 1))))) (sCons (sSlice (sVar 1) (some (sCon (.int 1))) none) (sCons (sBin .Add (sVar 1) (sTup (sCons (sBin .Add (sIdx (sVar 1) (sNeg (sCon (.int 1)))) (sCon (.int 1))) sNil))) (sCons (sBin .Add (sVar 1) (sSlice (sVar 1) none (some (sCon (.int 1))))) (sCons (sBin .Add (sBin .Add (sSlice (sVar 1) none (some (sVar 2))) (sTup (sCons (sBin .Add (sIdx (sVar 1) (sVar 2)) (sCon (.int 1))) sNil))) (sSlice (sVar 1) (some (sBin .Add (sVar 2) (sCon (.int 1)))) none)) (sCons (sBin .Add (sBin .Add (sSlice (sVar 1) none (some (sVar 2))) (sTup (sCons (sCon (.int 1)) sNil))) (sSlice (sVar 1) (some (sBin .Add (sVar 2) (sCon (.int 1)))) none)) sNil)))))))))))
def Va3 : SS :=
 (sAsg 3 false (sBin .Add (sVar 3) (sLst (sCons (sArgs tupleOp (sCons (sComp (sSeq (sVar 1)) (.name 6) sYes (sBin .Mult (sCon (.int 2)) (sVar 6)) (([("x", 6)] : List (Str × Nat)).map (·.2))) sNil)) (sCons (sBin .Add (sVar 1) (sTup (sCons (sBin .Add (sIdx (sVar 1) (sCon (.int 0))) (sIdx (sVar 1) (sNeg (sCon (.int 1))))) sNil))) (sCons (sArgs tupleOp (sCons (sArgs sorted3Op (sCons (sBin .Add (sVar 1) (sTup (sCons (sBin .Add (sIdx (sVar 1) (sVar 2)) (sCon (.int 1))) sNil))) sNil)) sNil)) (sCons (sArgs tupleOp (sCons (sArgs sorted3Op (sCons (sBin .Add (sVar 1) (sTup (sCons (sBin .Add (sBin .Mult (sCon (.int 3)) (sIdx (sVar 1) (sCon (.int 0)))) (sCon (.int 1))) sNil))) sNil)) sNil)) sNil)))))))
def Va4b : SS :=
 (sSeq2 (sAsg 5 false (sArgs F_law_is_lot (sCons (sVar 4) sNil)))
 (sSeq2 (sIfS (sNotB (sB (sArgs F_law_says (sCons (sArgs Fis_lot (sCons (sVar 4) sNil)) (sCons (sVar 5) sNil)))))
 (sSeq2 (sRet (sCon (.bl false)))
 sSkip)
 sSkip)
 (sSeq2 (sIfS (sAndB (sNotB (sB (sVar 5))) (sB (sCmp .NotEq (sComp (sSeq (sTup (sCons (sCon (.int 1)) (sCons (sCon (.int 2)) (sCons (sCon (.int 3)) (sCons (sCon (.int 4)) (sCons (sCon (.int 5)) sNil))))))) (.name 7) sYes (sIdx (sArgs F_law_told (sCons (sVar 7) (sCons (sVar 4) (sCons (sCon (.int 1)) sNil)))) (sCon (.int 0))) (([("which", 7)] : List (Str × Nat)).map (·.2))) (sBin .Mult (sLst (sCons (sCon (.str "malformed")) sNil)) (sCon (.int 5))))))
 (sSeq2 (sRet (sCon (.bl false)))
 sSkip)
 sSkip)
 sSkip)))
def Va4 : SS := sFor (sSeq (sBin .Add (sBin .Add (sVar 3) (sArgs F_law_bad_lots sNil)) (sLst (sCons (sRgT (sCon (.int 12)) (sCon (.int 24))) (sCons (sRgT (sCon (.int 13)) (sCon (.int 25))) (sCons (sTup (sCons (sCon (.int 999)) (sCons (sCon (.int 1000)) sNil))) (sCons (sTup (sCons (sCon (.int 1000)) (sCons (sCon (.int 1001)) sNil))) sNil))))))) (.name 4) Va4b
def Va5 : SS :=
 (sRet (sCon (.bl true)))
theorem T_law_values_right_eq : T_law_values_right = (sSeq2 Va1 (sSeq2 Va2 (sSeq2 Va3 (sSeq2 Va4 (sSeq2 Va5 sSkip))))) := rfl
/-! values: is_lot twice -/
def TwoV (x : D) : Prop := ∃ b, (∀ M, Fis_lot [.d x] M = .ok (.d (.bl b)) M) ∧ ∀ M, F_law_is_lot [.d x] M = .ok (.d (.bl b)) M
theorem two_ti {c : List Int} (hl : c.length ≤ 900) : TwoV (ti c) := ⟨lotC c, fun M => islot_ok hl, fun M => lil_ok hl⟩
theorem two_no {d : D} (hf : ∀ x, d ≠ .fn x) (ht : ∀ xs, d ≠ .tup xs) : TwoV d := ⟨false, fun M => islot_bad fun M => areg_no hf ht, fun M => lil_no hf ht⟩
theorem two_tup {ds : List D} (hl : ds.length ≤ 1000) (hf : ∀ d ∈ ds, ∀ x, d ≠ .fn x) (h : ds.all gB = false) : TwoV (.tup ds) := ⟨false, fun M => islot_bad fun M => by rw [areg_ok hl hf, h, Bool.and_false], fun M => lil_bad hl hf (by rw [h, Bool.and_false])⟩
abbrev VaE (lot : List Int) (o2 o3 o4 o5 o6 o7 : Option AV) : Env := [some (.cell 0), some (.d (ti lot)), o2, o3, o4, o5, o6, o7]
section
variable {x d : D} (h : ∀ M, Fis_lot [.d x] M = .ok (.d (.bl false)) M)
include h
theorem bad1 (M : Mem) : F_law_told [.d (.int 1), .d x, .d d] M = .ok (.d (.tup [.str "malformed", .non])) M := by
  have c := fun M => chk_bad h (M := M)
  refine told1M ?_
  unfold Flot_conductor
  refine e_fn rfl ?_
  unfold Tlot_conductor
  repeat' (first | (wtm_at "mpA") | (with_reducible apply e_callX (c _)) | (wtm_at "mp1"))
theorem bad2 (M : Mem) : F_law_told [.d (.int 2), .d x, .d d] M = .ok (.d (.tup [.str "malformed", .non])) M := by
  have c := fun M => chk_bad h (M := M)
  refine told2M ?_
  unfold Flot_genus
  refine e_fn rfl ?_
  unfold Tlot_genus
  repeat' (first | (wtm_at "mpA") | (with_reducible apply e_callX (c _)) | (wtm_at "mp1"))
theorem bad3 (M : Mem) : F_law_told [.d (.int 3), .d x, .d d] M = .ok (.d (.tup [.str "malformed", .non])) M := by
  have c := fun M => chk_bad h (M := M)
  refine told3M ?_
  unfold Flot_gaps
  refine e_fn rfl ?_
  unfold Tlot_gaps
  repeat' (first | (wtm_at "mpA") | (with_reducible apply e_callX (c _)) | (wtm_at "mp1"))
theorem bad4 (M : Mem) : F_law_told [.d (.int 4), .d x, .d d] M = .ok (.d (.tup [.str "malformed", .non])) M := by
  have c := fun M => chk_bad h (M := M)
  refine told4M ?_
  unfold Flot_holds
  refine e_fn rfl ?_
  unfold Tlot_holds
  repeat' (first | (wtm_at "mpA") | (with_reducible apply e_callX (c _)) | (wtm_at "mp1"))
theorem bad5 (M : Mem) : F_law_told [.d (.int 5), .d x, .d d] M = .ok (.d (.tup [.str "malformed", .non])) M := by
  have c := fun M => chk_bad h (M := M)
  refine told5M ?_
  unfold Flot_apery
  refine e_fn rfl ?_
  unfold Tlot_apery
  repeat' (first | (wtm_at "mpA") | (with_reducible apply e_callX (c _)) | (wtm_at "mp1"))
end
theorem va4b_ok {lot : List Int} {x : D} {M : Mem} {o2 o3 o5 o6 o7 : Option AV} (h : TwoV x) : ∃ o5', Va4b (VaE lot o2 o3 (some (.d x)) o5 o6 o7) M = .ok (.next (VaE lot o2 o3 (some (.d x)) o5' o6 o7)) M := by
  obtain ⟨b, h1, h2⟩ := h
  have y : ∀ M, F_law_says [.d (.bl b), .d (.bl b)] M = .ok (.d (.bl true)) M := fun M => by rw [says_ok, beq_self_eq_true]
  refine ⟨some (.d (.bl b)), el_start ?_⟩
  unfold Va4b
  cases b with
  | true =>
    repeat' (first | (wtm_at "mpA") | (with_reducible apply e_call (h2 _)) | (with_reducible apply e_call (h1 _)) | (with_reducible apply e_call (y _)) | (wtm_at "mp1"))
    rfl
  | false =>
    have t1 := fun M => bad1 h1 (d := .int 1) M
    have t2 := fun M => bad2 h1 (d := .int 1) M
    have t3 := fun M => bad3 h1 (d := .int 1) M
    have t4 := fun M => bad4 h1 (d := .int 1) M
    have t5 := fun M => bad5 h1 (d := .int 1) M
    have m5 : ∀ M, binop .Mult (opnd M (.fr [.str "malformed"])) (opnd M (.d (.int 5))) M = .ok (.fr (List.replicate 5 (.str "malformed"))) M := fun M => mul_l1 (by decide) (by decide)
    have ne : ∀ M, cmpop .NotEq (.fr [.str "malformed", .str "malformed", .str "malformed", .str "malformed", .str "malformed"]) (.fr (List.replicate 5 (.str "malformed"))) M = .ok (.d (.bl false)) M := fun M => by
      have e : cmpv .NotEq M (.fr [.str "malformed", .str "malformed", .str "malformed", .str "malformed", .str "malformed"]) (.fr (List.replicate 5 (.str "malformed"))) = some false := by
        show (if ((D.lst _).ok && (D.lst _).ok) = true then some (!D.eqv (.lst _) (.lst _)) else _) = _
        decide +kernel
      unfold cmpop
      rw [e]
    repeat' (first | (wtm_at "mpA") | (with_reducible apply e_call (h2 _)) | (with_reducible apply e_call (h1 _)) | (with_reducible apply e_call (y _)) | (with_reducible apply e_call (t1 _)) | (with_reducible apply e_call (t2 _)) | (with_reducible apply e_call (t3 _)) | (with_reducible apply e_call (t4 _)) | (with_reducible apply e_call (t5 _)) | (with_reducible apply p_bin (m5 _)) | (wtm_at "mp1"))
    refine p_cmpE (ne _) ?_
    repeat' (first | (wtm_at "mpA") | (wtm_at "mp1"))
    rfl

def badLots : List D := [.non, .int 5, .tup [], .str "lot", .lst [.int 1], .tup [.int 0], .tup [.int 2], .tup [.int 2, .int 4], .tup [.int 3, .int 2], .tup [.int 2, .int 3, .int 4], .tup [.int 2, .int 3, .int 5], .tup [.int 1, .int 2], .tup [.bl true], .tup [.str "1"], .tup [.int 2, .int 1001], .tup [.int (-1), .int 2], .tup [.int 2, .int 3, .int 3],
  .tup (rngL 13 13), .tup [.int 4, .int 6], .tup [.int 2, .non], .tup [.tup [.int 2, .int 3]]]
theorem nofn1 {a : D} (h : ∀ x, a ≠ .fn x) : ∀ d ∈ [a], ∀ x, d ≠ .fn x := fun d hd => by rw [List.mem_singleton.mp hd]; exact h
theorem nofn2 {a b : D} (h : ∀ x, a ≠ .fn x) (g : ∀ x, b ≠ .fn x) : ∀ d ∈ [a, b], ∀ x, d ≠ .fn x := fun d hd => by
  rcases List.mem_cons.mp hd with rfl | hd
  · exact h
  · rw [List.mem_singleton.mp hd]; exact g
theorem lbad_ok {M : Mem} : F_law_bad_lots [] M = .ok (.fr badLots) M := by
  have a1 : ∀ (xs ys : List D) M, xs.length + ys.length ≤ 1000000 → binop .Add (opnd M (.d (.lst xs))) (opnd M (.fr ys)) M = .ok (.fr (xs ++ ys)) M := fun xs ys M h => add_lf h
  have rg : ∀ M, rgTOp (.d (.int 13)) (.d (.int 26)) M = .ok (.d (.tup (rngL 13 13))) M := fun M => by
    show guard (rgOk 13 26) _ = _
    unfold guard
    rw [if_pos (by decide)]
    rfl
  unfold F_law_bad_lots
  refine e_fn rfl ?_
  unfold T_law_bad_lots
  repeat' (first | (wtm_at "mpA") | (with_reducible refine e_rgT ?_) | (wtm_at "mp1"))
  refine e_is (rg _) ?_
  repeat' (first | (wtm_at "mpA") | (with_reducible apply p_bin (add_lf (by decide))) | (wtm_at "mp1"))
  exact r_f
theorem bad_two : ∀ d ∈ badLots, TwoV d := by
  intro d hd
  unfold badLots at hd
  simp only [List.mem_cons, List.not_mem_nil, or_false] at hd
  rcases hd with rfl | rfl | rfl | rfl | rfl | rfl | rfl | rfl | rfl | rfl | rfl | rfl | rfl | rfl | rfl | rfl | rfl | rfl | rfl | rfl | rfl
  · exact two_no (fun x h => nomatch h) (fun x h => nomatch h)
  · exact two_no (fun x h => nomatch h) (fun x h => nomatch h)
  · exact two_ti (c := []) (by decide)
  · exact two_no (fun x h => nomatch h) (fun x h => nomatch h)
  · exact two_no (fun x h => nomatch h) (fun x h => nomatch h)
  · exact two_ti (c := [0]) (by decide)
  · exact two_ti (c := [2]) (by decide)
  · exact two_ti (c := [2, 4]) (by decide)
  · exact two_ti (c := [3, 2]) (by decide)
  · exact two_ti (c := [2, 3, 4]) (by decide)
  · exact two_ti (c := [2, 3, 5]) (by decide)
  · exact two_ti (c := [1, 2]) (by decide)
  · exact two_tup (show 1 ≤ 1000 by decide) (nofn1 fun x h => nomatch h) rfl
  · exact two_tup (show 1 ≤ 1000 by decide) (nofn1 fun x h => nomatch h) rfl
  · exact two_ti (c := [2, 1001]) (by decide)
  · exact two_ti (c := [-1, 2]) (by decide)
  · exact two_ti (c := [2, 3, 3]) (by decide)
  · exact two_ti (c := [13, 14, 15, 16, 17, 18, 19, 20, 21, 22, 23, 24, 25]) (by decide)
  · exact two_ti (c := [4, 6]) (by decide)
  · exact two_tup (show 2 ≤ 1000 by decide) (nofn2 (fun x h => nomatch h) fun x h => nomatch h) rfl
  · exact two_tup (show 1 ≤ 1000 by decide) (nofn1 fun x h => nomatch h) rfl
theorem ti_cut (c : List Int) (i j : Option Int) (M : Mem) : cutop (.d (ti c)) i j M = .ok (.d (ti (cutG c i j))) M := by
  show Out.ok (AV.d (.tup (cutG (c.map D.int) i j))) M = _
  rw [cutG_map]
theorem ti_add {a b : List Int} (h : a.length + b.length ≤ 1000000) (M : Mem) : binop .Add (opnd M (.d (ti a))) (opnd M (.d (ti b))) M = .ok (.d (ti (a ++ b))) M := by
  have := add_tup (xs := a.map D.int) (ys := b.map D.int) (M := M) (by rw [List.length_map, List.length_map]; exact h)
  rw [← List.map_append] at this
  exact this
theorem cut_le (c : List Int) (i j : Option Int) : (cutG c i j).length ≤ c.length := cutG_le c i j
theorem va1_ok {lot : List Int} {a b : Int} {Mt : Mem} {o2 o3 o4 o5 o6 o7 : Option AV} (h1 : 1 ≤ lot.length) (h2 : lot.length ≤ 1000) : ∃ (k a' b' : Int), Va1 (VaE lot o2 o3 o4 o5 o6 o7) (St a b Mt) = .ok (.next (VaE lot (some (.d (.int k))) o3 o4 o5 o6 o7)) (St a' b' Mt) ∧ 0 ≤ k ∧ k < lot.length := by
  obtain ⟨r1, a1, b1, e1, f1⟩ := take_ok (m := (lot.length : Nat)) (a := a) (b := b) (Mt := Mt) (by omega)
  have l1 : ∀ M, lenOp [.d (ti lot)] M = .ok (.d (.int (lot.length : Nat))) M := fun M => by
    show Out.ok (AV.d (.int ((lot.map D.int).length : Nat))) M = _
    rw [List.length_map]
  refine ⟨r1, a1, b1, el_start ?_, f1⟩
  unfold Va1
  repeat' (first | (wtm_at "mpA") | (with_reducible apply e_call (l1 _)) | (with_reducible apply e_call e1) | (wtm_at "mp1"))
  rfl

theorem ti_add1 {a : List Int} {x : Int} (h : a.length + 1 ≤ 1000000) (M : Mem) : binop .Add (opnd M (.d (ti a))) (opnd M (.d (.tup [.int x]))) M = .ok (.d (ti (a ++ [x]))) M := ti_add (b := [x]) h M
theorem va2_ok {lot : List Int} {k : Int} {M : Mem} {o3 o4 o5 o6 o7 : Option AV} (hne : lot ≠ []) (h2 : lot.length ≤ 12) (hk : 0 ≤ k) (hk2 : k < lot.length) : ∃ xs : List D, Va2 (VaE lot (some (.d (.int k))) o3 o4 o5 o6 o7) M = .ok (.next (VaE lot (some (.d (.int k))) (some (.d (.lst xs))) o4 o5 o6 o7)) M ∧ (∀ x ∈ xs, TwoV x) ∧ xs.length = 9 := by
  have il : ∀ M, idx (.d (ti lot)) (.d (.int (-1))) M = .ok (.d (.int (lastI lot))) M := fun M => idx_tup (atI_last hne)
  have ik : ∀ M, idx (.d (ti lot)) (.d (.int k)) M = .ok (.d (.int (lot.getD k.toNat 0))) M := fun M => idx_tiI hk hk2
  have c1 := cut_le lot none (some 1)
  have c2 := cut_le lot none (some k)
  have c3 := cut_le lot (some (k + 1)) none
  have c4 := cut_le lot none (some (-1))
  have c5 := cut_le lot (some 1) none
  generalize lastI lot = L at *
  generalize lot.getD k.toNat 0 = K at *
  have t1 : ∀ M, cutop (.d (ti lot)) none (some 1) M = .ok (.d (ti (cutG lot none (some 1)))) M := ti_cut lot _ _
  have t2 : ∀ M, cutop (.d (ti lot)) none (some k) M = .ok (.d (ti (cutG lot none (some k)))) M := ti_cut lot _ _
  have t3 : ∀ M, cutop (.d (ti lot)) (some (k + 1)) none M = .ok (.d (ti (cutG lot (some (k + 1)) none))) M := ti_cut lot _ _
  have t4 : ∀ M, cutop (.d (ti lot)) none (some (-1)) M = .ok (.d (ti (cutG lot none (some (-1))))) M := ti_cut lot _ _
  have t5 : ∀ M, cutop (.d (ti lot)) (some 1) none M = .ok (.d (ti (cutG lot (some 1) none))) M := ti_cut lot _ _
  generalize cutG lot none (some 1) = C1 at *
  generalize cutG lot none (some k) = C2 at *
  generalize cutG lot (some (k + 1)) none = C3 at *
  generalize cutG lot none (some (-1)) = C4 at *
  generalize cutG lot (some 1) none = C5 at *
  have rv : ∀ M, rev2Op (.d (ti lot)) M = .ok (.d (ti lot.reverse)) M := fun M => by
    show Out.ok (AV.d (.tup (lot.map D.int).reverse)) M = _
    rw [← List.map_reverse]
  have lt : ∀ M, listOp [.d (ti lot)] M = .ok (.fr (lot.map .int)) M := fun M => lst_tup
  have a1 : ∀ M, binop .Add (opnd M (.d (ti lot))) (opnd M (.d (.tup [.int (L + 1)]))) M = .ok (.d (ti (lot ++ [L + 1]))) M := ti_add1 (by omega)
  have a2 : ∀ M, binop .Add (opnd M (.d (ti lot))) (opnd M (.d (ti C1))) M = .ok (.d (ti (lot ++ C1))) M := ti_add (by omega)
  have a3 : ∀ M, binop .Add (opnd M (.d (ti C2))) (opnd M (.d (.tup [.int (K + 1)]))) M = .ok (.d (ti (C2 ++ [K + 1]))) M := ti_add1 (by omega)
  have a4 : ∀ M, binop .Add (opnd M (.d (ti (C2 ++ [K + 1])))) (opnd M (.d (ti C3))) M = .ok (.d (ti (C2 ++ [K + 1] ++ C3))) M := ti_add (by rw [List.length_append, List.length_singleton]; omega)
  have a5 : ∀ M, binop .Add (opnd M (.d (ti C2))) (opnd M (.d (.tup [.int 1]))) M = .ok (.d (ti (C2 ++ [1]))) M := ti_add1 (by omega)
  have a6 : ∀ M, binop .Add (opnd M (.d (ti (C2 ++ [1])))) (opnd M (.d (ti C3))) M = .ok (.d (ti (C2 ++ [1] ++ C3))) M := ti_add (by rw [List.length_append, List.length_singleton]; omega)
  refine ⟨[ti lot, .lst (lot.map .int), ti lot.reverse, ti C4, ti C5, ti (lot ++ [L + 1]), ti (lot ++ C1), ti (C2 ++ [K + 1] ++ C3), ti (C2 ++ [1] ++ C3)], el_start ?_, fun x hx => ?_, rfl⟩
  · unfold Va2
    repeat' (first | (wtm_at "mpA") | (with_reducible apply e_call (lt _)) | (with_reducible refine e_rev ?_) | (with_reducible refine e_is (rv _) ?_) | (with_reducible apply p_cut (t4 _)) | (with_reducible apply p_cut (t5 _)) | (with_reducible apply p_cut (t1 _)) | (with_reducible apply p_cut (t2 _)) | (with_reducible apply p_cut (t3 _)) | (with_reducible apply p_idx (il _)) | (with_reducible apply p_idx (ik _)) | (with_reducible apply p_bin (a1 _)) | (with_reducible apply p_bin (a2 _)) | (with_reducible apply p_bin (a3 _)) | (with_reducible apply p_bin (a4 _)) | (with_reducible apply p_bin (a5 _)) | (with_reducible apply p_bin (a6 _)) | (wtm_at "mp1"))
    rfl
  · simp only [List.mem_cons, List.not_mem_nil, or_false] at hx
    rcases hx with rfl | rfl | rfl | rfl | rfl | rfl | rfl | rfl | rfl
    · exact two_ti (by omega)
    · exact two_no (d := .lst (lot.map .int)) (fun x h => nomatch h) (fun x h => nomatch h)
    · exact two_ti (by rw [List.length_reverse]; omega)
    · exact two_ti (by omega)
    · exact two_ti (by omega)
    · exact two_ti (by rw [List.length_append, List.length_singleton]; omega)
    · exact two_ti (by rw [List.length_append]; omega)
    · exact two_ti (by rw [List.length_append, List.length_append, List.length_singleton]; omega)
    · exact two_ti (by rw [List.length_append, List.length_append, List.length_singleton]; omega)

def Of1 : SS :=
 (sAsg 1 false (sComp (sRng (sCons (sBin .Add (sCon (.int 1)) (sArgs F_law_take (sCons (sVar 0) (sCons (sIdx (sLst (sCons (sCon (.int 3)) (sCons (sCon (.int 8)) (sCons (sCon (.int 60)) sNil)))) (sArgs F_law_take (sCons (sVar 0) (sCons (sCon (.int 3)) sNil)))) sNil)))) sNil)) (.name 6) sYes (sBin .Add (sCon (.int 1)) (sArgs F_law_take (sCons (sVar 0) (sCons (sIdx (sLst (sCons (sCon (.int 12)) (sCons (sCon (.int 60)) (sCons (sCon (.int 1000)) sNil)))) (sArgs F_law_take (sCons (sVar 0) (sCons (sCon (.int 3)) sNil)))) sNil)))) (([("k", 6)] : List (Str × Nat)).map (·.2))))
def Of2b : SS :=
 (sSeq2 (sAsg 4 false (sArgs F_law_least (sCons (sVar 2) sNil)))
 (sSeq2 (sAsg 5 false (sTup (sCons (sCon (.str "told")) (sCons (sVar 4) sNil))))
 (sSeq2 (sIfS (sB (sCmp .Gt (sArgs F_law_gcd (sCons (sVar 2) sNil)) (sCon (.int 1))))
 (sSeq2 (sAsg 5 false (sTup (sCons (sCon (.str "refused")) (sCons (sCon (.str "common")) sNil))))
 sSkip)
 (sSeq2 (sIfS (sB (sCmp .Gt (sArgs lenOp (sCons (sVar 4) sNil)) (sCon (.int 12))))
 (sSeq2 (sAsg 5 false (sTup (sCons (sCon (.str "refused")) (sCons (sCon (.str "large")) sNil))))
 sSkip)
 sSkip)
 sSkip))
 (sSeq2 (sIfS (sNotB (sB (sArgs (F_law_same 8) (sCons (sArgs F_law_told (sCons (sCon (.int 0)) (sCons (sVar 2) (sCons (sCon .non) sNil)))) (sCons (sVar 5) sNil)))))
 (sSeq2 (sRet (sCon (.bl false)))
 sSkip)
 sSkip)
 sSkip))))
def Of2 : SS := sFor (sSeq (sLst (sCons (sArgs tupleOp (sCons (sVar 1) sNil)) (sCons (sArgs tupleOp (sCons (sBin .Add (sSlice (sVar 1) none (some (sCon (.int 59)))) (sSlice (sVar 1) none (some (sCon (.int 1))))) sNil)) (sCons (sRgT (sCon (.int 13)) (sCon (.int 26))) (sCons (sRgT (sCon (.int 12)) (sCon (.int 24))) (sCons (sTup (sCons (sCon (.int 6)) (sCons (sCon (.int 4)) (sCons (sCon (.int 10)) sNil)))) (sCons (sTup (sCons (sCon (.int 1)) sNil)) (sCons (sTup (sCons (sCon (.int 1000)) (sCons (sCon (.int 999)) sNil))) (sCons (sArgs tupleOp (sCons (sBin .Add (sComp (sSeq (sSlice (sVar 1) none (some (sCon (.int 59))))) (.name 7) (sB (sCmp .Lt (sVar 7) (sCon (.int 501)))) (sBin .Mult (sCon (.int 2)) (sVar 7)) (([("x", 7)] : List (Str × Nat)).map (·.2))) (sLst (sCons (sCon (.int 2)) sNil))) sNil)) sNil)))))))))) (.name 2) Of2b
def Of3b : SS :=
 (sSeq2 (sIfS (sB (sCmp .NotEq (sIdx (sArgs F_law_told (sCons (sCon (.int 0)) (sCons (sVar 3) (sCons (sCon .non) sNil)))) (sCon (.int 0))) (sCon (.str "malformed"))))
 (sSeq2 (sRet (sCon (.bl false)))
 sSkip)
 sSkip)
 sSkip)
def Of3 : SS := sFor (sSeq (sLst (sCons (sCon .non) (sCons (sCon (.int 5)) (sCons (sTup sNil) (sCons (sLst (sCons (sCon (.int 2)) (sCons (sCon (.int 3)) sNil))) (sCons (sTup (sCons (sCon (.int 0)) sNil)) (sCons (sTup (sCons (sNeg (sCon (.int 1))) sNil)) (sCons (sTup (sCons (sCon (.int 1001)) sNil)) (sCons (sTup (sCons (sCon (.bl true)) sNil)) (sCons (sTup (sCons (sCon (.str "2")) sNil)) (sCons (sTup (sCons (sCon (.int 2)) (sCons (sCon .non) sNil))) (sCons (sBin .Mult (sTup (sCons (sCon (.int 1)) sNil)) (sCon (.int 61))) sNil))))))))))))) (.name 3) Of3b
def Of4 : SS :=
 (sRet (sCon (.bl true)))
theorem T_law_of_right_eq : T_law_of_right = (sSeq2 Of1 (sSeq2 Of2 (sSeq2 Of3 (sSeq2 Of4 sSkip)))) := rfl
abbrev OfE (o1 o2 o3 o4 o5 o6 o7 : Option AV) : Env := [some (.cell 0), o1, o2, o3, o4, o5, o6, o7]
theorem of2b_ok {c : List Int} {M : Mem} {o1 o3 o4 o5 o6 o7 : Option AV} (hne : c ≠ []) (hl : c.length ≤ 60) (h : ∀ y ∈ c, 1 ≤ y ∧ y ≤ 1000) : ∃ o4' o5', Of2b (OfE o1 (some (.d (ti c))) o3 o4 o5 o6 o7) M = .ok (.next (OfE o1 (some (.d (ti c))) o3 o4' o5' o6 o7)) M := by
  have gk : ∀ M, F_law_gcd [.d (ti c)] M = .ok (.d (.int (gcdL c))) M := fun M => lgcd_ok (it_ti c) fun y hy => by have := h y hy; unfold SmI; omega
  have lk : ∀ M, F_law_least [.d (ti c)] M = .ok (.d (ti (leastL (sortU c)))) M := fun M => lleast_ok (row_ti c) hne (by omega) fun y hy => by have := h y hy; omega
  have hg := gcdL_pos hne fun y hy => by have := h y hy; omega
  have hll : (leastL (sortU c)).length ≤ 60 := by
    obtain ⟨h1, _, _⟩ := least_facts _ (sortU c) rfl
    have := h1.length_le
    have := sortU_le c
    omega
  by_cases g1 : gcdL c = 1
  · have g0 : ¬ (1 : Int) < gcdL c := by omega
    by_cases hb : (leastL (sortU c)).length ≤ 12
    · have t : ∀ M, F_law_told [.d (.int 0), .d (ti c), .d .non] M = .ok (.d (.tup [.str "told", ti (leastL (sortU c))])) M := fun M => told0 (lotof_ok hne hl h g1 hb) (odd_ti (n := 6) (by omega))
      have y := fun M => same_toldT (c := leastL (sortU c)) (by omega) (M := M)
      have l1 : ∀ M, lenOp [.d (ti (leastL (sortU c)))] M = .ok (.d (.int ((leastL (sortU c)).length : Nat))) M := fun M => by
        show Out.ok (AV.d (.int (((leastL (sortU c)).map D.int).length : Nat))) M = _
        rw [List.length_map]
      have n12 : ¬ (12 : Int) < ((leastL (sortU c)).length : Nat) := by omega
      generalize leastL (sortU c) = L at *
      generalize gcdL c = g at *
      refine ⟨some (.d (ti L)), some (.d (.tup [.str "told", ti L])), el_start ?_⟩
      unfold Of2b
      repeat' (first | (wtm_at "mpA") | (with_reducible apply e_call (lk _)) | (with_reducible apply e_call (gk _)) | (with_reducible apply e_call (l1 _)) | (with_reducible apply e_call (t _)) | (with_reducible apply e_call (y _)) | (wtm_at "mp1"))
      rfl
    · have t : ∀ M, F_law_told [.d (.int 0), .d (ti c), .d .non] M = .ok (.d (.tup [.str "refused", .str "large"])) M := fun M => told0L (lotof_large hne hl h g1 (by omega))
      have y := fun M => same_large (M := M)
      have l1 : ∀ M, lenOp [.d (ti (leastL (sortU c)))] M = .ok (.d (.int ((leastL (sortU c)).length : Nat))) M := fun M => by
        show Out.ok (AV.d (.int (((leastL (sortU c)).map D.int).length : Nat))) M = _
        rw [List.length_map]
      have n12 : (12 : Int) < ((leastL (sortU c)).length : Nat) := by omega
      generalize leastL (sortU c) = L at *
      generalize gcdL c = g at *
      refine ⟨some (.d (ti L)), some (.d (.tup [.str "refused", .str "large"])), el_start ?_⟩
      unfold Of2b
      repeat' (first | (wtm_at "mpA") | (with_reducible apply e_call (lk _)) | (with_reducible apply e_call (gk _)) | (with_reducible apply e_call (l1 _)) | (with_reducible apply e_call (t _)) | (with_reducible apply e_call (y _)) | (wtm_at "mp1"))
      rfl
  · have g0 : (1 : Int) < gcdL c := by omega
    have t : ∀ M, F_law_told [.d (.int 0), .d (ti c), .d .non] M = .ok (.d (.tup [.str "refused", .str "common"])) M := fun M => told0C (lotof_common hne hl h g1)
    have y := fun M => same_common (M := M)
    generalize leastL (sortU c) = L at *
    generalize gcdL c = g at *
    refine ⟨some (.d (ti L)), some (.d (.tup [.str "refused", .str "common"])), el_start ?_⟩
    unfold Of2b
    repeat' (first | (wtm_at "mpA") | (with_reducible apply e_call (lk _)) | (with_reducible apply e_call (gk _)) | (with_reducible apply e_call (t _)) | (with_reducible apply e_call (y _)) | (wtm_at "mp1"))
    rfl

theorem areg_bad {ds : List D} {most : Int} (hd : ds.length ≤ 1000) (hf : ∀ d ∈ ds, ∀ x, d ≠ .fn x) (h : ((decide (1 ≤ (ds.length : Int)) && decide ((ds.length : Int) ≤ most)) && ds.all gB) = false) (M : Mem) : Fare_generators [.d (.tup ds), .d (.int most)] M = .ok (.d (.bl false)) M := by rw [areg_ok hd hf, h]
theorem of3_ok {M : Mem} {o1 o2 o3 o4 o5 o6 o7 : Option AV} : ∃ o3', Of3 (OfE o1 o2 o3 o4 o5 o6 o7) M = .ok (.next (OfE o1 o2 o3' o4 o5 o6 o7)) M := by
  have m61 : ∀ M, binop .Mult (opnd M (.d (.tup [.int 1]))) (opnd M (.d (.int 61))) M = .ok (.d (.tup (List.replicate 61 (.int 1)))) M := fun M => mul_t1 (by decide) (by decide)
  obtain ⟨env', M', e, ⟨o3', rfl⟩, rfl⟩ := for_ok (body := Of3b) (tg := .name 3) (I := fun env M' => (∃ o3, env = OfE o1 o2 o3 o4 o5 o6 o7) ∧ M' = M) [.non, .int 5, .tup [], .lst [.int 2, .int 3], .tup [.int 0], .tup [.int (-1)], .tup [.int 1001], .tup [.bl true], .tup [.str "2"], .tup [.int 2, .non], .tup (List.replicate 61 (.int 1))] (fun d hd env M' h => by
    obtain ⟨⟨o3, rfl⟩, rfl⟩ := h
    have hb : ∀ M, Fare_generators [.d d, .d (.int 60)] M = .ok (.d (.bl false)) M := by
      simp only [List.mem_cons, List.not_mem_nil, or_false] at hd
      rcases hd with rfl | rfl | rfl | rfl | rfl | rfl | rfl | rfl | rfl | rfl | rfl
      · exact fun M => areg_no (d := .non) (fun x h => nomatch h) (fun x h => nomatch h)
      · exact fun M => areg_no (d := .int 5) (fun x h => nomatch h) (fun x h => nomatch h)
      · exact areg_bad (ds := []) (by decide) (fun d hd => nomatch hd) (by decide)
      · exact fun M => areg_no (d := .lst [.int 2, .int 3]) (fun x h => nomatch h) (fun x h => nomatch h)
      · exact areg_bad (show 1 ≤ 1000 by decide) (nofn1 fun x h => nomatch h) rfl
      · exact areg_bad (show 1 ≤ 1000 by decide) (nofn1 fun x h => nomatch h) rfl
      · exact areg_bad (show 1 ≤ 1000 by decide) (nofn1 fun x h => nomatch h) rfl
      · exact areg_bad (show 1 ≤ 1000 by decide) (nofn1 fun x h => nomatch h) rfl
      · exact areg_bad (show 1 ≤ 1000 by decide) (nofn1 fun x h => nomatch h) rfl
      · exact areg_bad (show 2 ≤ 1000 by decide) (nofn2 (fun x h => nomatch h) fun x h => nomatch h) rfl
      · refine areg_bad (by rw [List.length_replicate]; decide) (fun d hd x h => ?_) ?_
        · rw [(List.mem_replicate.mp hd).2] at h; cases h
        · rw [List.length_replicate]
          rfl
    have t0 : ∀ M, F_law_told [.d (.int 0), .d d, .d .non] M = .ok (.d (.tup [.str "malformed", .non])) M := fun M => told0M (lotof_bad hb)
    refine ⟨_, _, _, rfl, el_start (r' := Out.ok (Fl.next (OfE o1 o2 (some (.d d)) o4 o5 o6 o7)) M') ?_, ⟨_, rfl⟩, rfl⟩
    unfold Of3b
    repeat' (first | (wtm_at "mpA") | (with_reducible apply e_call (t0 _)) | (wtm_at "mp1"))
    rfl) (OfE o1 o2 o3 o4 o5 o6 o7) M ⟨⟨_, rfl⟩, rfl⟩
  refine ⟨o3', el_start ?_⟩
  unfold Of3
  repeat' (first | (wtm_at "mpA") | (with_reducible apply p_bin (m61 _)) | (wtm_at "mp1"))
  refine e_is e ?_
  rfl

theorem pick3 {x y z r B : Int} (hr : 0 ≤ r ∧ r < 3) (hx : 1 ≤ x ∧ x ≤ B) (hy : 1 ≤ y ∧ y ≤ B) (hz : 1 ≤ z ∧ z ≤ B) : ∃ v : Int, (1 ≤ v ∧ v ≤ B) ∧ ∀ M, idx (.fr [.int x, .int y, .int z]) (.d (.int r)) M = .ok (.d (.int v)) M := by
  have : r = 0 ∨ r = 1 ∨ r = 2 := by omega
  rcases this with rfl | rfl | rfl
  · exact ⟨x, hx, fun _ => rfl⟩
  · exact ⟨y, hy, fun _ => rfl⟩
  · exact ⟨z, hz, fun _ => rfl⟩
theorem of1_ok {a b : Int} {Mt : Mem} {o1 o2 o3 o4 o5 o6 o7 : Option AV} : ∃ (c : List Int) (a' b' : Int), Of1 (OfE o1 o2 o3 o4 o5 o6 o7) (St a b Mt) = .ok (.next (OfE (some (.d (.lst (c.map .int)))) o2 o3 o4 o5 o6 o7)) (St a' b' Mt) ∧ c ≠ [] ∧ c.length ≤ 60 ∧ ∀ y ∈ c, 1 ≤ y ∧ y ≤ 1000 := by
  obtain ⟨r1, a1, b1, e1, f1⟩ := take_ok (m := 3) (a := a) (b := b) (Mt := Mt) (by decide)
  obtain ⟨v, hv, i1⟩ := pick3 (x := 3) (y := 8) (z := 60) (B := 60) f1 (by decide) (by decide) (by decide)
  obtain ⟨r2, a2, b2, e2, f2⟩ := take_ok (m := v) (a := a1) (b := b1) (Mt := Mt) (by omega)
  obtain ⟨xs, M', e, ⟨a3, b3, rfl⟩, h3, h4⟩ := comp_ex (f := (sBin .Add (sCon (.int 1)) (sArgs F_law_take (sCons (sVar 0) (sCons (sIdx (sLst (sCons (sCon (.int 12)) (sCons (sCon (.int 60)) (sCons (sCon (.int 1000)) sNil)))) (sArgs F_law_take (sCons (sVar 0) (sCons (sCon (.int 3)) sNil)))) sNil))))) (c := sYes) (tg := .name 6) (vs := (([("k", 6)] : List (Str × Nat)).map (·.2))) (env := OfE o1 o2 o3 o4 o5 o6 o7)
    (I := fun M => ∃ a b, M = St a b Mt) (Pr := fun x => ∃ i : Int, x = .int i ∧ 1 ≤ i ∧ i ≤ 1000) (rngL 0 (1 + r2).toNat) [] (St a2 b2 Mt) ⟨a2, b2, rfl⟩ (fun d hd M h => by
      obtain ⟨a, b, rfl⟩ := h
      obtain ⟨r1, a1, b1, e1, f1⟩ := take_ok (m := 3) (a := a) (b := b) (Mt := Mt) (by decide)
      obtain ⟨v, hv, i1⟩ := pick3 (x := 12) (y := 60) (z := 1000) (B := 1000) f1 (by decide) (by decide) (by decide)
      obtain ⟨r2, a2, b2, e2, f2⟩ := take_ok (m := v) (a := a1) (b := b1) (Mt := Mt) (by omega)
      refine ⟨_, rfl, rfl, .d (.int (1 + r2)), St a2 b2 Mt, .int (1 + r2), el_start ?_, rfl, ⟨_, rfl, by omega, by omega⟩, a2, b2, rfl⟩
      repeat' (first | (wtm_at "mpA") | (with_reducible apply e_call e1) | (with_reducible apply p_idx (i1 _)) | (with_reducible apply e_call e2) | (wtm_at "mp1"))
      rfl) (by rw [rngL_len]; show 0 + _ ≤ _; omega)
  obtain ⟨c, rfl, hc⟩ := ints_of xs h4
  rw [List.length_map, rngL_len] at h3
  rw [List.nil_append] at e
  refine ⟨c, a3, b3, el_start ?_, fun e => by rw [e] at h3; simp at h3; omega, by omega, hc⟩
  unfold Of1
  repeat' (first | (wtm_at "mpA") | (with_reducible apply e_call e1) | (with_reducible apply p_idx (i1 _)) | (with_reducible apply e_call e2) | (wtm_at "mp0"))
  refine e_is e ?_
  repeat' (first | (wtm_at "mpA") | (wtm_at "mp1"))
  rfl

theorem cut_take {α : Type} (c : List α) (n : Nat) : cutG c none (some (n : Int)) = c.take n := by
  have := cutG_nn c 0 n (by omega)
  rw [List.drop_zero, Nat.sub_zero] at this
  rw [← this]
  rfl
def OkG (c : List Int) : Prop := c ≠ [] ∧ c.length ≤ 60 ∧ ∀ y ∈ c, 1 ≤ y ∧ y ≤ 1000
theorem of2_ok {c : List Int} {M : Mem} {o2 o3 o4 o5 o6 o7 : Option AV} (hc : OkG c) : ∃ o2' o4' o5', Of2 (OfE (some (.d (.lst (c.map .int)))) o2 o3 o4 o5 o6 o7) M = .ok (.next (OfE (some (.d (.lst (c.map .int)))) o2' o3 o4' o5' o6 o7)) M := by
  obtain ⟨hne, hl, h⟩ := hc
  let D2 : List Int := ((c.take 59).filter fun x => decide (x < 501)).map (fun x => 2 * x) ++ [2]
  let LL : List (List Int) := [c, c.take 59 ++ c.take 1, [13, 14, 15, 16, 17, 18, 19, 20, 21, 22, 23, 24, 25], [12, 13, 14, 15, 16, 17, 18, 19, 20, 21, 22, 23], [6, 4, 10], [1], [1000, 999], D2]
  have t59 : (c.take 59).length ≤ 59 := by rw [List.length_take]; omega
  have t1 : (c.take 1).length ≤ 1 := by rw [List.length_take]; omega
  have hD2 : OkG D2 := by
    refine ⟨by simp [D2], ?_, fun y hy => ?_⟩
    · show (((c.take 59).filter fun x => decide (x < 501)).map (fun x => 2 * x) ++ [2]).length ≤ 60
      rw [List.length_append, List.length_map, List.length_singleton]
      have := List.length_filter_le (fun x => decide (x < 501)) (c.take 59)
      omega
    · have hy : y ∈ ((c.take 59).filter fun x => decide (x < 501)).map (fun x => 2 * x) ++ [2] := hy
      rcases List.mem_append.mp hy with hy | hy
      · obtain ⟨x, hx, rfl⟩ := List.mem_map.mp hy
        obtain ⟨hx1, hx2⟩ := List.mem_filter.mp hx
        have := h x (List.mem_of_mem_take hx1)
        have := of_decide_eq_true hx2
        omega
      · rw [List.mem_singleton.mp hy]; omega
  have hLL : ∀ l ∈ LL, OkG l := fun l hl2 => by
    simp only [LL, List.mem_cons, List.not_mem_nil, or_false] at hl2
    rcases hl2 with rfl | rfl | rfl | rfl | rfl | rfl | rfl | rfl
    · exact ⟨hne, hl, h⟩
    · refine ⟨fun e => ?_, by rw [List.length_append]; omega, fun y hy => ?_⟩
      · cases c with
        | nil => exact hne rfl
        | cons x r => simp at e
      · rcases List.mem_append.mp hy with hy | hy
        · exact h y (List.mem_of_mem_take hy)
        · exact h y (List.mem_of_mem_take hy)
    · exact ⟨by decide, by decide, by decide⟩
    · exact ⟨by decide, by decide, by decide⟩
    · exact ⟨by decide, by decide, by decide⟩
    · exact ⟨by decide, by decide, by decide⟩
    · exact ⟨by decide, by decide, by decide⟩
    · exact hD2
  obtain ⟨env', M', e, ⟨o2', o4', o5', rfl⟩, rfl⟩ := for_pre (φ := ti) (body := Of2b) (tg := .name 2) (I := fun _ env M' => (∃ o2 o4 o5, env = OfE (some (.d (.lst (c.map .int)))) o2 o3 o4 o5 o6 o7) ∧ M' = M) LL [] (fun d l r e env M' hI => by
    obtain ⟨⟨o2, o4, o5, rfl⟩, rfl⟩ := hI
    obtain ⟨g1, g2, g3⟩ := hLL l (by rw [show LL = d ++ l :: r from e]; exact List.mem_append_right _ List.mem_cons_self)
    obtain ⟨o4', o5', e2⟩ := of2b_ok (M := M') (o1 := some (.d (.lst (c.map .int)))) (o3 := o3) (o4 := o4) (o5 := o5) (o6 := o6) (o7 := o7) g1 g2 g3
    exact ⟨_, _, _, rfl, e2, ⟨_, _, _, rfl⟩, rfl⟩) (OfE (some (.d (.lst (c.map .int)))) o2 o3 o4 o5 o6 o7) M ⟨⟨_, _, _, rfl⟩, rfl⟩
  have c59 : ∀ M, cutop (.d (.lst (c.map .int))) none (some 59) M = .ok (.fr ((c.take 59).map .int)) M := fun M => by
    show Out.ok (AV.fr (cutG (c.map D.int) none (some ((59 : Nat) : Int)))) M = _
    rw [cutG_map, cut_take]
  have c1 : ∀ M, cutop (.d (.lst (c.map .int))) none (some 1) M = .ok (.fr ((c.take 1).map .int)) M := fun M => by
    show Out.ok (AV.fr (cutG (c.map D.int) none (some ((1 : Nat) : Int)))) M = _
    rw [cutG_map, cut_take]
  have ad : ∀ M, binop .Add (opnd M (.fr ((c.take 59).map .int))) (opnd M (.fr ((c.take 1).map .int))) M = .ok (.fr ((c.take 59 ++ c.take 1).map .int)) M := fun M => by
    rw [List.map_append]
    exact add_ff (by rw [List.length_map, List.length_map]; omega)
  have rg : ∀ M, rgTOp (.d (.int 13)) (.d (.int 26)) M = .ok (.d (ti [13, 14, 15, 16, 17, 18, 19, 20, 21, 22, 23, 24, 25])) M := fun M => by
    show guard (rgOk 13 26) _ = _
    unfold guard
    rw [if_pos (by decide)]
    rfl
  have rg2 : ∀ M, rgTOp (.d (.int 12)) (.d (.int 24)) M = .ok (.d (ti [12, 13, 14, 15, 16, 17, 18, 19, 20, 21, 22, 23])) M := fun M => by
    show guard (rgOk 12 24) _ = _
    unfold guard
    rw [if_pos (by decide)]
    rfl
  have tp : ∀ (x : List Int) M, tupleOp [.d (.lst (x.map .int))] M = .ok (.d (ti x)) M := fun x M => tup_lst
  have ad2 : ∀ M, binop .Add (opnd M (.fr ((((c.take 59).filter fun x => decide (x < 501)).map (fun x => 2 * x)).map .int))) (opnd M (.fr [.int 2])) M = .ok (.fr (D2.map .int)) M := fun M => by
    show _ = Out.ok (AV.fr ((((c.take 59).filter fun x => decide (x < 501)).map (fun x => 2 * x) ++ [2]).map D.int)) M
    rw [List.map_append]
    refine add_ff ?_
    rw [List.length_map, List.length_map]
    have := List.length_filter_le (fun x => decide (x < 501)) (c.take 59)
    show _ + 1 ≤ 1000000
    omega
  refine ⟨o2', o4', o5', el_start ?_⟩
  unfold Of2
  repeat' (first | (wtm_at "mpA") | (with_reducible apply e_call (tp _ _)) | (with_reducible apply p_cut (c59 _)) | (with_reducible apply p_cut (c1 _)) | (with_reducible apply p_bin (ad _)) | (with_reducible refine e_rgT ?_) | (with_reducible refine e_is (rg _) ?_) | (with_reducible refine e_is (rg2 _) ?_) | (wtm_at "mp0"))
  refine e_compM (φ := D.int) (c.take 59) (fun x => .int (2 * x)) (fun x => decide (x < 501)) (fun x hx => ⟨_, rfl, el_start ?_, fun _ => ⟨.d (.int (2 * x)), el_start ?_, rfl⟩⟩) (by omega) ?_
  · repeat' (first | (wtm_at "mpA") | (wtm_at "mp1"))
    rfl
  · repeat' (first | (wtm_at "mpA") | (wtm_at "mp1"))
    rfl
  · have e3 : ((c.take 59).filter fun x => decide (x < 501)).map (fun x => D.int (2 * x)) = (((c.take 59).filter fun x => decide (x < 501)).map (fun x => 2 * x)).map .int := by rw [List.map_map]; rfl
    rw [e3]
    repeat' (first | (wtm_at "mpA") | (with_reducible apply p_bin (ad2 _)) | (with_reducible apply e_call (tp _ _)) | (wtm_at "mp0"))
    refine e_is e ?_
    rfl

theorem of_right {a b : Int} {Mt : Mem} : ∃ a' b', F_law_of_right [.cell 0] (St a b Mt) = .ok (.d (.bl true)) (St a' b' Mt) := by
  obtain ⟨c, a1, b1, e1, hc⟩ := of1_ok (a := a) (b := b) (Mt := Mt) (o1 := none) (o2 := none) (o3 := none) (o4 := none) (o5 := none) (o6 := none) (o7 := none)
  obtain ⟨p2, p4, p5, e2⟩ := of2_ok (M := St a1 b1 Mt) (o2 := none) (o3 := none) (o4 := none) (o5 := none) (o6 := none) (o7 := none) hc
  obtain ⟨p3, e3⟩ := of3_ok (M := St a1 b1 Mt) (o1 := some (.d (.lst (c.map .int)))) (o2 := p2) (o3 := none) (o4 := p4) (o5 := p5) (o6 := none) (o7 := none)
  refine ⟨a1, b1, ?_⟩
  unfold F_law_of_right
  refine e_fn rfl ?_
  rw [T_law_of_right_eq]
  refine e_stmt (e1 : Of1 _ _ = _) ?_
  refine e_stmt e2 ?_
  refine e_stmt e3 ?_
  unfold Of4
  repeat' (first | (wtm_at "mpA") | (wtm_at "mp1"))
  exact r_dT

theorem va3_ok {lot : List Int} {k : Int} {M : Mem} {xs : List D} {o4 o5 o6 o7 : Option AV} (hne : lot ≠ []) (h2 : lot.length ≤ 12) (hk : 0 ≤ k) (hk2 : k < lot.length) (hx : ∀ x ∈ xs, TwoV x) (hxl : xs.length = 9) : ∃ ys : List D, Va3 (VaE lot (some (.d (.int k))) (some (.d (.lst xs))) o4 o5 o6 o7) M = .ok (.next (VaE lot (some (.d (.int k))) (some (.d (.lst ys))) o4 o5 o6 o7)) M ∧ (∀ x ∈ ys, TwoV x) ∧ ys.length = 13 := by
  have il : ∀ M, idx (.d (ti lot)) (.d (.int (-1))) M = .ok (.d (.int (lastI lot))) M := fun M => idx_tup (atI_last hne)
  have ik : ∀ M, idx (.d (ti lot)) (.d (.int k)) M = .ok (.d (.int (lot.getD k.toNat 0))) M := fun M => idx_tiI hk hk2
  have h0 : (0 : Int) < (lot.length : Nat) := by omega
  have i0 : ∀ M, idx (.d (ti lot)) (.d (.int 0)) M = .ok (.d (.int (lot.getD 0 0))) M := fun M => idx_tiI (i := 0) (by decide) h0
  generalize lastI lot = L at *
  generalize lot.getD k.toNat 0 = K at *
  generalize lot.getD 0 0 = Z at *
  have a1 : ∀ M, binop .Add (opnd M (.d (ti lot))) (opnd M (.d (.tup [.int (Z + L)]))) M = .ok (.d (ti (lot ++ [Z + L]))) M := ti_add1 (by omega)
  have a2 : ∀ M, binop .Add (opnd M (.d (ti lot))) (opnd M (.d (.tup [.int (K + 1)]))) M = .ok (.d (ti (lot ++ [K + 1]))) M := ti_add1 (by omega)
  have a3 : ∀ M, binop .Add (opnd M (.d (ti lot))) (opnd M (.d (.tup [.int (3 * Z + 1)]))) M = .ok (.d (ti (lot ++ [3 * Z + 1]))) M := ti_add1 (by omega)
  have so : ∀ (c : List Int) M, sorted3Op [.d (ti c)] M = .ok (.fr ((sortI c).map .int)) M := fun c M => sorted_ti c M
  have ln : ∀ x : Int, (sortI (lot ++ [x])).length ≤ 900 := fun x => by
    rw [(sortI_perm _).length_eq, List.length_append, List.length_singleton]
    omega
  refine ⟨xs ++ [ti (lot.map fun x => 2 * x), ti (lot ++ [Z + L]), ti (sortI (lot ++ [K + 1])), ti (sortI (lot ++ [3 * Z + 1]))], el_start ?_, fun x hm => ?_, by rw [List.length_append, hxl]; rfl⟩
  · have ad : ∀ (ys : List D) M, ys.length = 4 → binop .Add (opnd M (.d (.lst xs))) (opnd M (.fr ys)) M = .ok (.fr (xs ++ ys)) M := fun ys M h => add_lf (by rw [h, hxl]; decide)
    unfold Va3
    repeat' (first | (wtm_at "mpA") | (wtm_at "mp0"))
    refine e_compA (φ := D.int) lot (fun x => .int (2 * x)) (fun x hm => ⟨_, rfl, .d (.int (2 * x)), el_start ?_, rfl⟩) (by omega) ?_
    · repeat' (first | (wtm_at "mpA") | (wtm_at "mp1"))
      rfl
    · have e : lot.map (fun x => D.int (2 * x)) = (lot.map fun x => 2 * x).map .int := by rw [List.map_map]; rfl
      rw [e]
      repeat' (first | (wtm_at "mpA") | (with_reducible apply e_call tup_lst) | (with_reducible apply p_idx (i0 _)) | (with_reducible apply p_idx (il _)) | (with_reducible apply p_idx (ik _)) | (with_reducible apply p_bin (a1 _)) | (with_reducible apply p_bin (a2 _)) | (with_reducible apply p_bin (a3 _)) | (with_reducible apply e_call (so _ _)) | (wtm_at "mp1"))
      refine p_bin (ad _ _ (by rfl)) ?_
      repeat' (first | (wtm_at "mpA") | (wtm_at "mp1"))
      rfl
  · rcases List.mem_append.mp hm with hm | hm
    · exact hx x hm
    · simp only [List.mem_cons, List.not_mem_nil, or_false] at hm
      rcases hm with rfl | rfl | rfl | rfl
      · exact two_ti (by rw [List.length_map]; omega)
      · exact two_ti (by rw [List.length_append, List.length_singleton]; omega)
      · exact two_ti (ln _)
      · exact two_ti (ln _)

abbrev lastV : List D := [.tup (rngL 12 12), .tup (rngL 13 12), .tup [.int 999, .int 1000], .tup [.int 1000, .int 1001]]
theorem last_two : ∀ d ∈ lastV, TwoV d := by
  intro d hd
  simp only [List.mem_cons, List.not_mem_nil, or_false] at hd
  rcases hd with rfl | rfl | rfl | rfl
  · exact two_ti (c := [12, 13, 14, 15, 16, 17, 18, 19, 20, 21, 22, 23]) (by decide)
  · exact two_ti (c := [13, 14, 15, 16, 17, 18, 19, 20, 21, 22, 23, 24]) (by decide)
  · exact two_ti (c := [999, 1000]) (by decide)
  · exact two_ti (c := [1000, 1001]) (by decide)
theorem va4_ok {lot : List Int} {ys : List D} {M : Mem} {o2 o4 o5 o6 o7 : Option AV} (hy : ∀ x ∈ ys, TwoV x) (hl : ys.length = 13) : ∃ o4' o5', Va4 (VaE lot o2 (some (.d (.lst ys))) o4 o5 o6 o7) M = .ok (.next (VaE lot o2 (some (.d (.lst ys))) o4' o5' o6 o7)) M := by
  have all : ∀ d ∈ ys ++ badLots ++ lastV, TwoV d := fun d hd => by
    rcases List.mem_append.mp hd with hd | hd
    · rcases List.mem_append.mp hd with hd | hd
      · exact hy d hd
      · exact bad_two d hd
    · exact last_two d hd
  obtain ⟨env', M', e, ⟨o4', o5', rfl⟩, rfl⟩ := for_ok (body := Va4b) (tg := .name 4) (I := fun env M' => (∃ o4 o5, env = VaE lot o2 (some (.d (.lst ys))) o4 o5 o6 o7) ∧ M' = M) (ys ++ badLots ++ lastV) (fun d hd env M' h => by
    obtain ⟨⟨o4, o5, rfl⟩, rfl⟩ := h
    obtain ⟨o5', e⟩ := va4b_ok (lot := lot) (M := M') (o2 := o2) (o3 := some (.d (.lst ys))) (o5 := o5) (o6 := o6) (o7 := o7) (all d hd)
    exact ⟨_, _, _, rfl, e, ⟨_, _, rfl⟩, rfl⟩) (VaE lot o2 (some (.d (.lst ys))) o4 o5 o6 o7) M ⟨⟨_, _, rfl⟩, rfl⟩
  have r12 : ∀ M, rgTOp (.d (.int 12)) (.d (.int 24)) M = .ok (.d (.tup (rngL 12 12))) M := fun M => by
    show guard (rgOk 12 24) _ = _
    unfold guard
    rw [if_pos (by decide)]
    rfl
  have r13 : ∀ M, rgTOp (.d (.int 13)) (.d (.int 25)) M = .ok (.d (.tup (rngL 13 12))) M := fun M => by
    show guard (rgOk 13 25) _ = _
    unfold guard
    rw [if_pos (by decide)]
    rfl
  have a1 : ∀ M, binop .Add (opnd M (.d (.lst ys))) (opnd M (.fr badLots)) M = .ok (.fr (ys ++ badLots)) M := fun M => add_lf (by rw [hl]; decide)
  have a2 : ∀ M, binop .Add (opnd M (.fr (ys ++ badLots))) (opnd M (.fr lastV)) M = .ok (.fr (ys ++ badLots ++ lastV)) M := fun M => add_ff (by rw [List.length_append, hl]; decide)
  refine ⟨o4', o5', el_start ?_⟩
  unfold Va4
  repeat' (first | (wtm_at "mpA") | (with_reducible apply e_call lbad_ok) | (with_reducible refine e_rgT ?_) | (with_reducible apply p_bin (a1 _)) | (with_reducible apply e_is (r12 _)) | (with_reducible apply e_is (r13 _)) | (with_reducible apply p_bin (a2 _)) | (wtm_at "mp1"))
  refine e_is e ?_
  rfl
theorem values_right {lot : List Int} {a b : Int} {Mt : Mem} (hne : lot ≠ []) (h2 : lot.length ≤ 12) : ∃ a' b', F_law_values_right [.cell 0, .d (ti lot)] (St a b Mt) = .ok (.d (.bl true)) (St a' b' Mt) := by
  have h1 : 1 ≤ lot.length := by
    cases lot with
    | nil => exact absurd rfl hne
    | cons x r => simp
  obtain ⟨k, a1, b1, e1, hk, hk2⟩ := va1_ok (lot := lot) (a := a) (b := b) (Mt := Mt) (o2 := none) (o3 := none) (o4 := none) (o5 := none) (o6 := none) (o7 := none) h1 (by omega)
  obtain ⟨xs, e2, x1, x2⟩ := va2_ok (lot := lot) (M := St a1 b1 Mt) (o3 := none) (o4 := none) (o5 := none) (o6 := none) (o7 := none) hne h2 hk hk2
  obtain ⟨ys, e3, y1, y2⟩ := va3_ok (lot := lot) (M := St a1 b1 Mt) (o4 := none) (o5 := none) (o6 := none) (o7 := none) hne h2 hk hk2 x1 x2
  obtain ⟨o4', o5', e4⟩ := va4_ok (lot := lot) (M := St a1 b1 Mt) (o2 := some (.d (.int k))) (o4 := none) (o5 := none) (o6 := none) (o7 := none) y1 y2
  refine ⟨a1, b1, ?_⟩
  unfold F_law_values_right
  refine e_fn rfl ?_
  rw [T_law_values_right_eq]
  refine e_stmt (e1 : Va1 _ _ = _) ?_
  refine e_stmt e2 ?_
  refine e_stmt e3 ?_
  refine e_stmt e4 ?_
  unfold Va5
  repeat' (first | (wtm_at "mpA") | (wtm_at "mp1"))
  exact r_dT

def S1 : SS :=
 (sAsg 1 true (sArgs F_law_state (sCons (sVar 0) sNil)))
def S2 : SS :=
 (sAsg 2 false (sArgs F_law_lot (sCons (sVar 1) (sCons (sCon (.int 6)) (sCons (sCon (.int 30)) sNil)))))
def S3 : SS :=
 (sAsg 3 false (sArgs F_law_lot (sCons (sVar 1) (sCons (sCon (.int 8)) (sCons (sCon (.int 1000)) sNil)))))
def S4 : SS :=
 (sIfS (sOrB (sB (sCmp .Gt (sArgs lenOp (sCons (sVar 3) sNil)) (sCon (.int 12)))) (sB (sCmp .Gt (sIdx (sVar 3) (sCon (.int 0))) (sCon (.int 400)))))
 (sSeq2 (sAsg 3 false (sTup (sCons (sCon (.int 40)) (sCons (sCon (.int 61)) (sCons (sCon (.int 83)) sNil)))))
 sSkip)
 sSkip)
def S5 : SS :=
 (sIfS (sOrB (sNotB (sB (sArgs F_law_small_right (sCons (sVar 1) (sCons (sVar 2) sNil))))) (sNotB (sB (sArgs F_law_small_right (sCons (sVar 1) (sCons (sTup (sCons (sCon (.int 1)) sNil)) sNil))))))
 (sSeq2 (sRet (sCon (.bl false)))
 sSkip)
 sSkip)
def S6 : SS :=
 (sIfS (sOrB (sNotB (sB (sArgs F_law_great_right (sCons (sVar 1) (sCons (sVar 3) sNil))))) (sNotB (sB (sArgs F_law_great_right (sCons (sVar 1) (sCons (sTup (sCons (sCon (.int 300)) (sCons (sIdx (sLst (sCons (sCon (.int 601)) (sCons (sCon (.int 607)) (sCons (sCon (.int 613)) (sCons (sCon (.int 619)) (sCons (sCon (.int 631)) (sCons (sCon (.int 643)) sNil))))))) (sArgs F_law_take (sCons (sVar 1) (sCons (sCon (.int 6)) sNil)))) sNil))) sNil))))))
 (sSeq2 (sRet (sCon (.bl false)))
 sSkip)
 sSkip)
def S7b : SS :=
 (sSeq2 (sIfS (sOrB (sB (sCmp .NotEq (sIdx (sArgs F_law_told (sCons (sCon (.int 4)) (sCons (sVar 2) (sCons (sVar 4) sNil)))) (sCon (.int 0))) (sCon (.str "malformed")))) (sB (sCmp .NotEq (sIdx (sArgs F_law_told (sCons (sCon (.int 5)) (sCons (sVar 2) (sCons (sVar 4) sNil)))) (sCon (.int 0))) (sCon (.str "malformed")))))
 (sSeq2 (sRet (sCon (.bl false)))
 sSkip)
 sSkip)
 sSkip)
def S7 : SS := sFor (sSeq (sLst (sCons (sCon .non) (sCons (sCon (.str "1")) (sCons (sCon (.bl true)) (sCons (sTup (sCons (sCon (.int 1)) sNil)) (sCons (sLst (sCons (sCon (.int 2)) sNil)) sNil))))))) (.name 4) S7b
def S8 : SS :=
 (sIfS (sB (sCmp .NotEq (sComp (sSeq (sTup (sCons (sCon (.int 0)) (sCons (sNeg (sIdx (sVar 2) (sCon (.int 0)))) (sCons (sCon (.int 1001)) sNil))))) (.name 4) sYes (sIdx (sArgs F_law_told (sCons (sCon (.int 5)) (sCons (sVar 2) (sCons (sVar 4) sNil)))) (sCon (.int 0))) (([("bad", 4)] : List (Str × Nat)).map (·.2))) (sBin .Mult (sLst (sCons (sCon (.str "malformed")) sNil)) (sCon (.int 3)))))
 (sSeq2 (sRet (sCon (.bl false)))
 sSkip)
 sSkip)
def S9 : SS :=
 (sRet (sAnd (sArgs F_law_values_right (sCons (sVar 1) (sCons (sVar 2) sNil))) (sArgs F_law_of_right (sCons (sVar 1) sNil))))
theorem Tlaw_eq : Tlaw = (sSeq2 S1 (sSeq2 S2 (sSeq2 S3 (sSeq2 S4 (sSeq2 S5 (sSeq2 S6 (sSeq2 S7 (sSeq2 S8 (sSeq2 S9 sSkip))))))))) := rfl
theorem state_ok (ns : List Int) : ∃ a b, F_law_state [.scr ns] [] = .ok (.fr [.int a, .int b]) [] := by
  have loop := for_ok (body := (sSeq2 (sAsg 1 false (sBin .Add (sBin .Mult (sVar 1) (sCon (.int 1000003))) (sArgs absOp (sCons (sVar 3) sNil))))
    (sSeq2 (sAsg 2 false (sBin .Mod (sArgs intOp (sCons (sBin .Add (sBin .Mult (sVar 2) (sCon (.int 48271))) (sVar 3)) sNil)) (sCon (.int 2147483647))))
    sSkip))) (tg := .name 3) (I := fun env M => M = [] ∧ ∃ a b o3, env = [some (.scr ns), some (.d (.int a)), some (.d (.int b)), o3]) (cutG (ns.map D.int) none (some 63)) (fun d hd env M h => by
      obtain ⟨n, _, rfl⟩ := List.mem_map.mp (mem_cutG hd)
      obtain ⟨rfl, a, b, o3, rfl⟩ := h
      refine ⟨_, _, _, rfl, el_start ?_, rfl, a * 1000003 + n.natAbs, (b * 48271 + n) % 2147483647, some (.d (.int n)), rfl⟩
      repeat' (first | (wtm_at "mpA") | (wtm_at "mp2"))
      rfl)
  obtain ⟨env', M', e, rfl, a, b, o3, rfl⟩ := loop [some (.scr ns), some (.d (.int 0)), some (.d (.int 1)), none] [] ⟨rfl, 0, 1, _, rfl⟩
  refine ⟨a, b, ?_⟩
  unfold F_law_state
  refine e_fn rfl ?_
  unfold T_law_state
  repeat' (first | (wtm_at "mpA") | (wtm_at "mp2"))
  refine e_eq e ?_
  repeat' (first | (wtm_at "mpA") | (wtm_at "mp2"))
  rfl
abbrev LE (ns : List Int) (o2 o3 o4 : Option AV) : Env := [some (.scr ns), some (.cell 0), o2, o3, o4]
section
variable {ns lot : List Int} {a b : Int} {M : Mem} {o2 o3 o4 : Option AV}
theorem s1_ok (ns : List Int) : ∃ a b, S1 [some (.scr ns), none, none, none, none] [] = .ok (.next (LE ns none none none)) (St a b []) := by
  obtain ⟨a, b, hs⟩ := state_ok ns
  refine ⟨a, b, el_start ?_⟩
  unfold S1
  repeat' (first | (wtm_at "mpA") | (with_reducible apply e_call hs) | (wtm_at "mp1"))
  rfl
theorem s2_ok : ∃ lot a' b', S2 (LE ns o2 o3 o4) (St a b []) = .ok (.next (LE ns (some (.d (ti lot))) o3 o4)) (St a' b' []) ∧ GoodM 6 30 lot := by
  obtain ⟨lot, a1, b1, e1, g⟩ := llot_ok (many := 6) (most := 30) (a := a) (b := b) (Mt := []) (by decide) (by decide)
  refine ⟨lot, a1, b1, el_start ?_, g⟩
  unfold S2
  repeat' (first | (wtm_at "mpA") | (with_reducible apply e_call e1) | (wtm_at "mp1"))
  rfl
theorem s3_ok : ∃ lot a' b', S3 (LE ns o2 o3 o4) (St a b []) = .ok (.next (LE ns o2 (some (.d (ti lot))) o4)) (St a' b' []) ∧ GoodM 8 1000 lot := by
  obtain ⟨lot, a1, b1, e1, g⟩ := llot_ok (many := 8) (most := 1000) (a := a) (b := b) (Mt := []) (by decide) (by decide)
  refine ⟨lot, a1, b1, el_start ?_, g⟩
  unfold S3
  repeat' (first | (wtm_at "mpA") | (with_reducible apply e_call e1) | (wtm_at "mp1"))
  rfl
theorem s4_ok (h : lotC lot = true) : ∃ great, S4 (LE ns o2 (some (.d (ti lot))) o4) M = .ok (.next (LE ns o2 (some (.d (ti great))) o4)) M ∧ lotC great = true := by
  obtain ⟨m, A, H⟩ := lot_a h
  have hl := H.len
  have l1 : ∀ M, lenOp [.d (ti lot)] M = .ok (.d (.int (lot.length : Nat))) M := fun M => by
    show Out.ok (AV.d (.int ((lot.map D.int).length : Nat))) M = _
    rw [List.length_map]
  by_cases hm : (400 : Int) < (m : Nat)
  · refine ⟨[40, 61, 83], el_start ?_, by decide +kernel⟩
    unfold S4
    repeat' (first | (wtm_at "mpA") | (with_reducible apply e_call (l1 _)) | (with_reducible apply p_idx (H.i0 _)) | (wtm_at "mp1"))
    rfl
  · refine ⟨lot, el_start ?_, h⟩
    unfold S4
    repeat' (first | (wtm_at "mpA") | (with_reducible apply e_call (l1 _)) | (with_reducible apply p_idx (H.i0 _)) | (wtm_at "mp1"))
    rfl
theorem one_right {a b : Int} {lot : List Int} (h : lotC lot = true) (hb : ∀ y ∈ lot, y ≤ 30) : ∃ a' b', F_law_small_right [.cell 0, .d (ti lot)] (St a b []) = .ok (.d (.bl true)) (St a' b' []) := by
  obtain ⟨m, A, H⟩ := lot_a h
  have h0 := H.ap.cond_nn H.hm H.pos
  have h1 := cond_bd2 H (B := 30) hb (by decide)
  have h2 := hb _ H.mem
  obtain ⟨c, hc⟩ : ∃ c : Nat, condA m A = c := ⟨(condA m A).toNat, by omega⟩
  exact small_right H h hc (by omega)
theorem two_right {a b : Int} {lot : List Int} (h : lotC lot = true) : ∃ a' b', F_law_great_right [.cell 0, .d (ti lot)] (St a b []) = .ok (.d (.bl true)) (St a' b' []) := by
  obtain ⟨m, A, H⟩ := lot_a h
  have h0 := H.ap.cond_nn H.hm H.pos
  obtain ⟨c, hc⟩ : ∃ c : Nat, condA m A = c := ⟨(condA m A).toNat, by omega⟩
  exact great_right H hc
theorem s5_ok (h : GoodM 6 30 lot) : ∃ a' b', S5 (LE ns (some (.d (ti lot))) o3 o4) (St a b []) = .ok (.next (LE ns (some (.d (ti lot))) o3 o4)) (St a' b' []) := by
  obtain ⟨a1, b1, e1⟩ := one_right (a := a) (b := b) h.1 h.2.2
  obtain ⟨a2, b2, e2⟩ := one_right (a := a1) (b := b1) (lot := [1]) (by decide +kernel) (by decide)
  have e2 : F_law_small_right [.cell 0, .d (.tup [.int 1])] (St a1 b1 []) = _ := e2
  refine ⟨a2, b2, el_start ?_⟩
  unfold S5
  repeat' (first | (wtm_at "mpA") | (with_reducible apply e_call e1) | (with_reducible apply e_call e2) | (wtm_at "mp1"))
  rfl
theorem s6_ok (h : lotC lot = true) : ∃ a' b', S6 (LE ns o2 (some (.d (ti lot))) o4) (St a b []) = .ok (.next (LE ns o2 (some (.d (ti lot))) o4)) (St a' b' []) := by
  obtain ⟨a1, b1, e1⟩ := two_right (a := a) (b := b) h
  obtain ⟨r, a2, b2, e2, f2⟩ := take_ok (m := 6) (a := a1) (b := b1) (Mt := []) (by decide)
  obtain ⟨p, hp, i6⟩ : ∃ p : Int, lotC [300, p] = true ∧ ∀ M, idx (.fr [.int 601, .int 607, .int 613, .int 619, .int 631, .int 643]) (.d (.int r)) M = .ok (.d (.int p)) M := by
    have : r = 0 ∨ r = 1 ∨ r = 2 ∨ r = 3 ∨ r = 4 ∨ r = 5 := by omega
    rcases this with rfl | rfl | rfl | rfl | rfl | rfl
    · exact ⟨601, by decide +kernel, fun _ => rfl⟩
    · exact ⟨607, by decide +kernel, fun _ => rfl⟩
    · exact ⟨613, by decide +kernel, fun _ => rfl⟩
    · exact ⟨619, by decide +kernel, fun _ => rfl⟩
    · exact ⟨631, by decide +kernel, fun _ => rfl⟩
    · exact ⟨643, by decide +kernel, fun _ => rfl⟩
  obtain ⟨a3, b3, e3⟩ := two_right (a := a2) (b := b2) hp
  have e3 : F_law_great_right [.cell 0, .d (.tup [.int 300, .int p])] (St a2 b2 []) = _ := e3
  refine ⟨a3, b3, el_start ?_⟩
  unfold S6
  repeat' (first | (wtm_at "mpA") | (with_reducible apply e_call e1) | (with_reducible apply e_call e2) | (with_reducible apply p_idx (i6 _)) | (with_reducible apply e_call e3) | (wtm_at "mp1"))
  rfl
theorem s7_ok (h : lotC lot = true) : ∃ o4', S7 (LE ns (some (.d (ti lot))) o3 o4) M = .ok (.next (LE ns (some (.d (ti lot))) o3 o4')) M := by
  obtain ⟨m, A, H⟩ := lot_a h
  have bad : ∀ d ∈ ([.non, .str "1", .bl true, .tup [.int 1], .lst [.int 2]] : List D), (∀ x, d ≠ .fn x) ∧ isI d = false := fun d hd => by
    simp only [List.mem_cons, List.not_mem_nil, or_false] at hd
    rcases hd with rfl | rfl | rfl | rfl | rfl <;> exact ⟨fun x h => (nomatch h), rfl⟩
  obtain ⟨env', M', e, ⟨o4', rfl⟩, rfl⟩ := for_ok (body := S7b) (tg := .name 4) (I := fun env M' => (∃ o4, env = LE ns (some (.d (ti lot))) o3 o4) ∧ M' = M) [.non, .str "1", .bl true, .tup [.int 1], .lst [.int 2]] (fun d hd env M' h => by
    obtain ⟨⟨o4, rfl⟩, rfl⟩ := h
    obtain ⟨h1, h2⟩ := bad d hd
    have t4 : ∀ M, F_law_told [.d (.int 4), .d (ti lot), .d d] M = .ok (.d (.tup [.str "malformed", .non])) M := fun M => told4M (lholds_no H h1 h2)
    have t5 : ∀ M, F_law_told [.d (.int 5), .d (ti lot), .d d] M = .ok (.d (.tup [.str "malformed", .non])) M := fun M => told5M (lap_no H h1 h2)
    refine ⟨_, _, _, rfl, el_start (r' := Out.ok (Fl.next (LE ns (some (.d (ti lot))) o3 (some (.d d)))) M') ?_, ⟨_, rfl⟩, rfl⟩
    unfold S7b
    repeat' (first | (wtm_at "mpA") | (with_reducible apply e_call (t4 _)) | (with_reducible apply e_call (t5 _)) | (wtm_at "mp1"))
    rfl) (LE ns (some (.d (ti lot))) o3 o4) M ⟨⟨_, rfl⟩, rfl⟩
  refine ⟨o4', el_start ?_⟩
  unfold S7
  repeat' (first | (wtm_at "mpA") | (wtm_at "mp1"))
  refine e_is e ?_
  rfl
theorem s8_ok (h : lotC lot = true) : S8 (LE ns (some (.d (ti lot))) o3 o4) M = .ok (.next (LE ns (some (.d (ti lot))) o3 o4)) M := by
  obtain ⟨m, A, H⟩ := lot_a h
  have hm := H.hm
  have t1 : ∀ M, F_law_told [.d (.int 5), .d (ti lot), .d (.int 0)] M = .ok (.d (.tup [.str "malformed", .non])) M := fun M => told5M (lap_out H (by omega))
  have t2 : ∀ M, F_law_told [.d (.int 5), .d (ti lot), .d (.int (-(m : Nat)))] M = .ok (.d (.tup [.str "malformed", .non])) M := fun M => told5M (lap_out H (by omega))
  have t3 : ∀ M, F_law_told [.d (.int 5), .d (ti lot), .d (.int 1001)] M = .ok (.d (.tup [.str "malformed", .non])) M := fun M => told5M (lap_out H (by omega))
  have m3 : ∀ M, binop .Mult (opnd M (.fr [.str "malformed"])) (opnd M (.d (.int 3))) M = .ok (.fr (List.replicate 3 (.str "malformed"))) M := fun M => mul_l1 (by decide) (by decide)
  have ne : ∀ M, cmpop .NotEq (.fr [.str "malformed", .str "malformed", .str "malformed"]) (.fr (List.replicate 3 (.str "malformed"))) M = .ok (.d (.bl false)) M := fun M => by
    have e : cmpv .NotEq M (.fr [.str "malformed", .str "malformed", .str "malformed"]) (.fr (List.replicate 3 (.str "malformed"))) = some false := by
      show (if ((D.lst _).ok && (D.lst _).ok) = true then some (!D.eqv (.lst _) (.lst _)) else _) = _
      decide +kernel
    unfold cmpop
    rw [e]
  refine el_start ?_
  unfold S8
  repeat' (first | (wtm_at "mpA") | (with_reducible apply p_idx (H.i0 _)) | (with_reducible apply e_call (t1 _)) | (with_reducible apply e_call (t2 _)) | (with_reducible apply e_call (t3 _)) | (with_reducible apply p_bin (m3 _)) | (wtm_at "mp1"))
  refine p_cmpE (ne _) ?_
  repeat' (first | (wtm_at "mpA") | (wtm_at "mp1"))
  rfl
end
theorem law_true : ∀ ns : List Int, ns.length ≤ 63 → ∃ M, Flaw [.scr ns] [] = .ok (.d (.bl true)) M := by
  intro ns _
  obtain ⟨a1, b1, e1⟩ := s1_ok ns
  obtain ⟨lot, a2, b2, e2, g2⟩ := s2_ok (ns := ns) (a := a1) (b := b1) (o2 := none) (o3 := none) (o4 := none)
  obtain ⟨gr0, a3, b3, e3, g3⟩ := s3_ok (ns := ns) (a := a2) (b := b2) (o2 := some (.d (ti lot))) (o3 := none) (o4 := none)
  obtain ⟨great, e4, g4⟩ := s4_ok (ns := ns) (M := St a3 b3 []) (o2 := some (.d (ti lot))) (o4 := none) g3.1
  obtain ⟨a5, b5, e5⟩ := s5_ok (ns := ns) (a := a3) (b := b3) (o3 := some (.d (ti great))) (o4 := none) g2
  obtain ⟨a6, b6, e6⟩ := s6_ok (ns := ns) (a := a5) (b := b5) (o2 := some (.d (ti lot))) (o4 := none) g4
  obtain ⟨o4', e7⟩ := s7_ok (ns := ns) (M := St a6 b6 []) (o3 := some (.d (ti great))) (o4 := none) g2.1
  have e8 := s8_ok (ns := ns) (M := St a6 b6 []) (o3 := some (.d (ti great))) (o4 := o4') g2.1
  obtain ⟨f0, f1, _⟩ := lotC_facts g2.1
  obtain ⟨a9, b9, e9⟩ := values_right (a := a6) (b := b6) (Mt := []) f0 f1
  obtain ⟨a10, b10, e10⟩ := of_right (a := a9) (b := b9) (Mt := [])
  refine ⟨[], ?_⟩
  unfold Flaw
  refine e_fn rfl ?_
  rw [Tlaw_eq]
  refine e_stmt (e1 : S1 _ [] = _) ?_
  refine e_stmt e2 ?_
  refine e_stmt e3 ?_
  refine e_stmt e4 ?_
  refine e_stmt e5 ?_
  refine e_stmt e6 ?_
  refine e_stmt e7 ?_
  refine e_stmt e8 ?_
  unfold S9
  repeat' (first | (wtm_at "mpA") | (with_reducible apply e_call e9) | (with_reducible apply e_call e10) | (wtm_at "mp1"))
  rfl

theorem all_mk {w : World} {K : PySem.W.Frag} {h : Heap} {mg : Str → Option Value} {fa : Addr} (X : K.In h) (G : h.Ns mainGlobals mg) (hfa : mg "law" = some (.ref fa))
    {tkMOST_CONDUCTOR : Tok}
    {tkMOST_GENERATOR : Tok}
    {tkMOST_GENERATORS : Tok}
    {tkMOST_GIVEN : Tok}
    {f0 : Addr} {oc0 kV0 dc0 pm0 cd0 ct0 : Value} {od0 an0 : Option Addr} {sl0 : Array (Option Value)}
    {f1 : Addr} {oc1 kV1 dc1 pm1 cd1 ct1 : Value} {od1 an1 : Option Addr} {sl1 : Array (Option Value)}
    {f2 : Addr} {oc2 kV2 dc2 pm2 cd2 ct2 : Value} {od2 an2 : Option Addr} {sl2 : Array (Option Value)}
    {f3 : Addr} {oc3 kV3 dc3 pm3 cd3 ct3 : Value} {od3 an3 : Option Addr} {sl3 : Array (Option Value)}
    {f4 : Addr} {oc4 kV4 dc4 pm4 cd4 ct4 : Value} {od4 an4 : Option Addr} {sl4 : Array (Option Value)}
    {f5 : Addr} {oc5 kV5 dc5 pm5 cd5 ct5 : Value} {od5 an5 : Option Addr} {sl5 : Array (Option Value)}
    {f6 : Addr} {oc6 kV6 dc6 pm6 cd6 ct6 : Value} {od6 an6 : Option Addr} {sl6 : Array (Option Value)}
    {f7 : Addr} {oc7 kV7 dc7 pm7 cd7 ct7 : Value} {od7 an7 : Option Addr} {sl7 : Array (Option Value)}
    {f8 : Addr} {oc8 kV8 dc8 pm8 cd8 ct8 : Value} {od8 an8 : Option Addr} {sl8 : Array (Option Value)}
    {f9 : Addr} {oc9 kV9 dc9 pm9 cd9 ct9 : Value} {od9 an9 : Option Addr} {sl9 : Array (Option Value)}
    {f10 : Addr} {oc10 kV10 dc10 pm10 cd10 ct10 : Value} {od10 an10 : Option Addr} {sl10 : Array (Option Value)}
    {f11 : Addr} {oc11 kV11 dc11 pm11 cd11 ct11 : Value} {od11 an11 : Option Addr} {sl11 : Array (Option Value)}
    {f12 : Addr} {oc12 kV12 dc12 pm12 cd12 ct12 : Value} {od12 an12 : Option Addr} {sl12 : Array (Option Value)}
    {f13 : Addr} {oc13 kV13 dc13 pm13 cd13 ct13 : Value} {od13 an13 : Option Addr} {sl13 : Array (Option Value)}
    {f14 : Addr} {oc14 kV14 dc14 pm14 cd14 ct14 : Value} {od14 an14 : Option Addr} {sl14 : Array (Option Value)}
    {f15 : Addr} {oc15 kV15 dc15 pm15 cd15 ct15 : Value} {od15 an15 : Option Addr} {sl15 : Array (Option Value)}
    {f16 : Addr} {oc16 kV16 dc16 pm16 cd16 ct16 : Value} {od16 an16 : Option Addr} {sl16 : Array (Option Value)}
    {f17 : Addr} {oc17 kV17 dc17 pm17 cd17 ct17 : Value} {od17 an17 : Option Addr} {sl17 : Array (Option Value)}
    {f18 : Addr} {oc18 kV18 dc18 pm18 cd18 ct18 : Value} {od18 an18 : Option Addr} {sl18 : Array (Option Value)}
    {f19 : Addr} {oc19 kV19 dc19 pm19 cd19 ct19 : Value} {od19 an19 : Option Addr} {sl19 : Array (Option Value)}
    {f20 : Addr} {oc20 kV20 dc20 pm20 cd20 ct20 : Value} {od20 an20 : Option Addr} {sl20 : Array (Option Value)}
    {f21 : Addr} {oc21 kV21 dc21 pm21 cd21 ct21 : Value} {od21 an21 : Option Addr} {sl21 : Array (Option Value)}
    {f22 : Addr} {oc22 kV22 dc22 pm22 cd22 ct22 : Value} {od22 an22 : Option Addr} {sl22 : Array (Option Value)}
    {f23 : Addr} {oc23 kV23 dc23 pm23 cd23 ct23 : Value} {od23 an23 : Option Addr} {sl23 : Array (Option Value)}
    {f24 : Addr} {oc24 kV24 dc24 pm24 cd24 ct24 : Value} {od24 an24 : Option Addr} {sl24 : Array (Option Value)}
    {f25 : Addr} {oc25 kV25 dc25 pm25 cd25 ct25 : Value} {od25 an25 : Option Addr} {sl25 : Array (Option Value)}
    {f26 : Addr} {oc26 kV26 dc26 pm26 cd26 ct26 : Value} {od26 an26 : Option Addr} {sl26 : Array (Option Value)}
    {f27 : Addr} {oc27 kV27 dc27 pm27 cd27 ct27 : Value} {od27 an27 : Option Addr} {sl27 : Array (Option Value)}
    {f28 : Addr} {oc28 kV28 dc28 pm28 cd28 ct28 : Value} {od28 an28 : Option Addr} {sl28 : Array (Option Value)}
    {f29 : Addr} {oc29 kV29 dc29 pm29 cd29 ct29 : Value} {od29 an29 : Option Addr} {sl29 : Array (Option Value)}
    {f30 : Addr} {oc30 kV30 dc30 pm30 cd30 ct30 : Value} {od30 an30 : Option Addr} {sl30 : Array (Option Value)}
    {f31 : Addr} {oc31 kV31 dc31 pm31 cd31 ct31 : Value} {od31 an31 : Option Addr} {sl31 : Array (Option Value)}
    {f32 : Addr} {oc32 kV32 dc32 pm32 cd32 ct32 : Value} {od32 an32 : Option Addr} {sl32 : Array (Option Value)}
    {f33 : Addr} {oc33 kV33 dc33 pm33 cd33 ct33 : Value} {od33 an33 : Option Addr} {sl33 : Array (Option Value)}
    {f34 : Addr} {oc34 kV34 dc34 pm34 cd34 ct34 : Value} {od34 an34 : Option Addr} {sl34 : Array (Option Value)}
    {f35 : Addr} {oc35 kV35 dc35 pm35 cd35 ct35 : Value} {od35 an35 : Option Addr} {sl35 : Array (Option Value)}
    {f36 : Addr} {oc36 kV36 dc36 pm36 cd36 ct36 : Value} {od36 an36 : Option Addr} {sl36 : Array (Option Value)}
    {f37 : Addr} {oc37 kV37 dc37 pm37 cd37 ct37 : Value} {od37 an37 : Option Addr} {sl37 : Array (Option Value)}
    {f38 : Addr} {oc38 kV38 dc38 pm38 cd38 ct38 : Value} {od38 an38 : Option Addr} {sl38 : Array (Option Value)}
    {f39 : Addr} {oc39 kV39 dc39 pm39 cd39 ct39 : Value} {od39 an39 : Option Addr} {sl39 : Array (Option Value)}
    {CM CR fR CF cda cc NR : Addr} {nmR qR qn fileR : Str} {tfR : Tok} {bsR : List Value} {snR : List Str} {subR : List Value} {abR : Bool} {colR : Option Bool} {ddR : Option Addr} {mR0 mR1 mR2 mR3 mR5 : Option Value} {ocR dcR pmR ctR cclR clR : Value} {odR anR cddR cldR : Option Addr} {oslR ccsR cslR : Array (Option Value)} {vsR : Array Value}
    (z_abs : PySem.W.nsIn K mainGlobals "abs" = some none)
    (z_all : PySem.W.nsIn K mainGlobals "all" = some none)
    (z_any : PySem.W.nsIn K mainGlobals "any" = some none)
    (z_bool : PySem.W.nsIn K mainGlobals "bool" = some none)
    (z_enumerate : PySem.W.nsIn K mainGlobals "enumerate" = some none)
    (z_int : PySem.W.nsIn K mainGlobals "int" = some none)
    (z_isinstance : PySem.W.nsIn K mainGlobals "isinstance" = some none)
    (z_len : PySem.W.nsIn K mainGlobals "len" = some none)
    (z_list : PySem.W.nsIn K mainGlobals "list" = some none)
    (z_max : PySem.W.nsIn K mainGlobals "max" = some none)
    (z_min : PySem.W.nsIn K mainGlobals "min" = some none)
    (z_range : PySem.W.nsIn K mainGlobals "range" = some none)
    (z_set : PySem.W.nsIn K mainGlobals "set" = some none)
    (z_sorted : PySem.W.nsIn K mainGlobals "sorted" = some none)
    (z_str : PySem.W.nsIn K mainGlobals "str" = some none)
    (z_sum : PySem.W.nsIn K mainGlobals "sum" = some none)
    (z_tuple : PySem.W.nsIn K mainGlobals "tuple" = some none)
    (z_zip : PySem.W.nsIn K mainGlobals "zip" = some none)
    (y_MOST_CONDUCTOR : PySem.W.nsIn K mainGlobals "MOST_CONDUCTOR" = some (some (.int 3000 tkMOST_CONDUCTOR)))
    (y_MOST_GENERATOR : PySem.W.nsIn K mainGlobals "MOST_GENERATOR" = some (some (.int 1000 tkMOST_GENERATOR)))
    (y_MOST_GENERATORS : PySem.W.nsIn K mainGlobals "MOST_GENERATORS" = some (some (.int 12 tkMOST_GENERATORS)))
    (y_MOST_GIVEN : PySem.W.nsIn K mainGlobals "MOST_GIVEN" = some (some (.int 60 tkMOST_GIVEN)))
    (a0 : PySem.W.nsIn K mainGlobals "is_integer" = some (some (.ref f0)))
    (l0 : K.lookup f0 = some ⟨oc0, od0, .func (PySem.W.fnOf "is_integer" "is_integer" (defArgs stis_integer) (defBody stis_integer) (defScope stis_integer) .none kV0 dc0 pm0 an0 cd0 ct0), sl0⟩)
    (c0 : PySem.W.codeIn K cd0 "is_integer" = true)
    (k0 : PySem.W.keepIn K (.ref f0) = true)
    (a1 : PySem.W.nsIn K mainGlobals "greatest_common" = some (some (.ref f1)))
    (l1 : K.lookup f1 = some ⟨oc1, od1, .func (PySem.W.fnOf "greatest_common" "greatest_common" (defArgs stgreatest_common) (defBody stgreatest_common) (defScope stgreatest_common) .none kV1 dc1 pm1 an1 cd1 ct1), sl1⟩)
    (c1 : PySem.W.codeIn K cd1 "greatest_common" = true)
    (k1 : PySem.W.keepIn K (.ref f1) = true)
    (a2 : PySem.W.nsIn K mainGlobals "common_of" = some (some (.ref f2)))
    (l2 : K.lookup f2 = some ⟨oc2, od2, .func (PySem.W.fnOf "common_of" "common_of" (defArgs stcommon_of) (defBody stcommon_of) (defScope stcommon_of) .none kV2 dc2 pm2 an2 cd2 ct2), sl2⟩)
    (c2 : PySem.W.codeIn K cd2 "common_of" = true)
    (k2 : PySem.W.keepIn K (.ref f2) = true)
    (a3 : PySem.W.nsIn K mainGlobals "least_of" = some (some (.ref f3)))
    (l3 : K.lookup f3 = some ⟨oc3, od3, .func (PySem.W.fnOf "least_of" "least_of" (defArgs stleast_of) (defBody stleast_of) (defScope stleast_of) .none kV3 dc3 pm3 an3 cd3 ct3), sl3⟩)
    (c3 : PySem.W.codeIn K cd3 "least_of" = true)
    (k3 : PySem.W.keepIn K (.ref f3) = true)
    (a4 : PySem.W.nsIn K mainGlobals "are_generators" = some (some (.ref f4)))
    (l4 : K.lookup f4 = some ⟨oc4, od4, .func (PySem.W.fnOf "are_generators" "are_generators" (defArgs stare_generators) (defBody stare_generators) (defScope stare_generators) .none kV4 dc4 pm4 an4 cd4 ct4), sl4⟩)
    (c4 : PySem.W.codeIn K cd4 "are_generators" = true)
    (k4 : PySem.W.keepIn K (.ref f4) = true)
    (a5 : PySem.W.nsIn K mainGlobals "is_lot" = some (some (.ref f5)))
    (l5 : K.lookup f5 = some ⟨oc5, od5, .func (PySem.W.fnOf "is_lot" "is_lot" (defArgs stis_lot) (defBody stis_lot) (defScope stis_lot) .none kV5 dc5 pm5 an5 cd5 ct5), sl5⟩)
    (c5 : PySem.W.codeIn K cd5 "is_lot" = true)
    (k5 : PySem.W.keepIn K (.ref f5) = true)
    (a6 : PySem.W.nsIn K mainGlobals "check_lot" = some (some (.ref f6)))
    (l6 : K.lookup f6 = some ⟨oc6, od6, .func (PySem.W.fnOf "check_lot" "check_lot" (defArgs stcheck_lot) (defBody stcheck_lot) (defScope stcheck_lot) .none kV6 dc6 pm6 an6 cd6 ct6), sl6⟩)
    (c6 : PySem.W.codeIn K cd6 "check_lot" = true)
    (k6 : PySem.W.keepIn K (.ref f6) = true)
    (a7 : PySem.W.nsIn K mainGlobals "bounded" = some (some (.ref f7)))
    (l7 : K.lookup f7 = some ⟨oc7, od7, .func (PySem.W.fnOf "bounded" "bounded" (defArgs stbounded) (defBody stbounded) (defScope stbounded) .none kV7 dc7 pm7 an7 cd7 ct7), sl7⟩)
    (c7 : PySem.W.codeIn K cd7 "bounded" = true)
    (k7 : PySem.W.keepIn K (.ref f7) = true)
    (a8 : PySem.W.nsIn K mainGlobals "lot_of" = some (some (.ref f8)))
    (l8 : K.lookup f8 = some ⟨oc8, od8, .func (PySem.W.fnOf "lot_of" "lot_of" (defArgs stlot_of) (defBody stlot_of) (defScope stlot_of) .none kV8 dc8 pm8 an8 cd8 ct8), sl8⟩)
    (c8 : PySem.W.codeIn K cd8 "lot_of" = true)
    (k8 : PySem.W.keepIn K (.ref f8) = true)
    (a9 : PySem.W.nsIn K mainGlobals "apery_of" = some (some (.ref f9)))
    (l9 : K.lookup f9 = some ⟨oc9, od9, .func (PySem.W.fnOf "apery_of" "apery_of" (defArgs stapery_of) (defBody stapery_of) (defScope stapery_of) .none kV9 dc9 pm9 an9 cd9 ct9), sl9⟩)
    (c9 : PySem.W.codeIn K cd9 "apery_of" = true)
    (k9 : PySem.W.keepIn K (.ref f9) = true)
    (a10 : PySem.W.nsIn K mainGlobals "holds" = some (some (.ref f10)))
    (l10 : K.lookup f10 = some ⟨oc10, od10, .func (PySem.W.fnOf "holds" "holds" (defArgs stholds) (defBody stholds) (defScope stholds) .none kV10 dc10 pm10 an10 cd10 ct10), sl10⟩)
    (c10 : PySem.W.codeIn K cd10 "holds" = true)
    (k10 : PySem.W.keepIn K (.ref f10) = true)
    (a11 : PySem.W.nsIn K mainGlobals "lot_holds" = some (some (.ref f11)))
    (l11 : K.lookup f11 = some ⟨oc11, od11, .func (PySem.W.fnOf "lot_holds" "lot_holds" (defArgs stlot_holds) (defBody stlot_holds) (defScope stlot_holds) .none kV11 dc11 pm11 an11 cd11 ct11), sl11⟩)
    (c11 : PySem.W.codeIn K cd11 "lot_holds" = true)
    (k11 : PySem.W.keepIn K (.ref f11) = true)
    (a12 : PySem.W.nsIn K mainGlobals "lot_apery" = some (some (.ref f12)))
    (l12 : K.lookup f12 = some ⟨oc12, od12, .func (PySem.W.fnOf "lot_apery" "lot_apery" (defArgs stlot_apery) (defBody stlot_apery) (defScope stlot_apery) .none kV12 dc12 pm12 an12 cd12 ct12), sl12⟩)
    (c12 : PySem.W.codeIn K cd12 "lot_apery" = true)
    (k12 : PySem.W.keepIn K (.ref f12) = true)
    (a13 : PySem.W.nsIn K mainGlobals "conductor_of_lot" = some (some (.ref f13)))
    (l13 : K.lookup f13 = some ⟨oc13, od13, .func (PySem.W.fnOf "conductor_of_lot" "conductor_of_lot" (defArgs stconductor_of_lot) (defBody stconductor_of_lot) (defScope stconductor_of_lot) .none kV13 dc13 pm13 an13 cd13 ct13), sl13⟩)
    (c13 : PySem.W.codeIn K cd13 "conductor_of_lot" = true)
    (k13 : PySem.W.keepIn K (.ref f13) = true)
    (a14 : PySem.W.nsIn K mainGlobals "genus_of_lot" = some (some (.ref f14)))
    (l14 : K.lookup f14 = some ⟨oc14, od14, .func (PySem.W.fnOf "genus_of_lot" "genus_of_lot" (defArgs stgenus_of_lot) (defBody stgenus_of_lot) (defScope stgenus_of_lot) .none kV14 dc14 pm14 an14 cd14 ct14), sl14⟩)
    (c14 : PySem.W.codeIn K cd14 "genus_of_lot" = true)
    (k14 : PySem.W.keepIn K (.ref f14) = true)
    (a15 : PySem.W.nsIn K mainGlobals "lot_conductor" = some (some (.ref f15)))
    (l15 : K.lookup f15 = some ⟨oc15, od15, .func (PySem.W.fnOf "lot_conductor" "lot_conductor" (defArgs stlot_conductor) (defBody stlot_conductor) (defScope stlot_conductor) .none kV15 dc15 pm15 an15 cd15 ct15), sl15⟩)
    (c15 : PySem.W.codeIn K cd15 "lot_conductor" = true)
    (k15 : PySem.W.keepIn K (.ref f15) = true)
    (a16 : PySem.W.nsIn K mainGlobals "lot_genus" = some (some (.ref f16)))
    (l16 : K.lookup f16 = some ⟨oc16, od16, .func (PySem.W.fnOf "lot_genus" "lot_genus" (defArgs stlot_genus) (defBody stlot_genus) (defScope stlot_genus) .none kV16 dc16 pm16 an16 cd16 ct16), sl16⟩)
    (c16 : PySem.W.codeIn K cd16 "lot_genus" = true)
    (k16 : PySem.W.keepIn K (.ref f16) = true)
    (a17 : PySem.W.nsIn K mainGlobals "members_to" = some (some (.ref f17)))
    (l17 : K.lookup f17 = some ⟨oc17, od17, .func (PySem.W.fnOf "members_to" "members_to" (defArgs stmembers_to) (defBody stmembers_to) (defScope stmembers_to) .none kV17 dc17 pm17 an17 cd17 ct17), sl17⟩)
    (c17 : PySem.W.codeIn K cd17 "members_to" = true)
    (k17 : PySem.W.keepIn K (.ref f17) = true)
    (a18 : PySem.W.nsIn K mainGlobals "lot_gaps" = some (some (.ref f18)))
    (l18 : K.lookup f18 = some ⟨oc18, od18, .func (PySem.W.fnOf "lot_gaps" "lot_gaps" (defArgs stlot_gaps) (defBody stlot_gaps) (defScope stlot_gaps) .none kV18 dc18 pm18 an18 cd18 ct18), sl18⟩)
    (c18 : PySem.W.codeIn K cd18 "lot_gaps" = true)
    (k18 : PySem.W.keepIn K (.ref f18) = true)
    (a19 : PySem.W.nsIn K mainGlobals "_law_state" = some (some (.ref f19)))
    (l19 : K.lookup f19 = some ⟨oc19, od19, .func (PySem.W.fnOf "_law_state" "_law_state" (defArgs st_law_state) (defBody st_law_state) (defScope st_law_state) .none kV19 dc19 pm19 an19 cd19 ct19), sl19⟩)
    (c19 : PySem.W.codeIn K cd19 "_law_state" = true)
    (k19 : PySem.W.keepIn K (.ref f19) = true)
    (a20 : PySem.W.nsIn K mainGlobals "_law_take" = some (some (.ref f20)))
    (l20 : K.lookup f20 = some ⟨oc20, od20, .func (PySem.W.fnOf "_law_take" "_law_take" (defArgs st_law_take) (defBody st_law_take) (defScope st_law_take) .none kV20 dc20 pm20 an20 cd20 ct20), sl20⟩)
    (c20 : PySem.W.codeIn K cd20 "_law_take" = true)
    (k20 : PySem.W.keepIn K (.ref f20) = true)
    (a21 : PySem.W.nsIn K mainGlobals "_law_odd" = some (some (.ref f21)))
    (l21 : K.lookup f21 = some ⟨oc21, od21, .func (PySem.W.fnOf "_law_odd" "_law_odd" (defArgs st_law_odd) (defBody st_law_odd) (defScope st_law_odd) .none kV21 dc21 pm21 an21 cd21 ct21), sl21⟩)
    (c21 : PySem.W.codeIn K cd21 "_law_odd" = true)
    (k21 : PySem.W.keepIn K (.ref f21) = true)
    (a22 : PySem.W.nsIn K mainGlobals "_law_honest" = some (some (.ref f22)))
    (l22 : K.lookup f22 = some ⟨oc22, od22, .func (PySem.W.fnOf "_law_honest" "_law_honest" (defArgs st_law_honest) (defBody st_law_honest) (defScope st_law_honest) .none kV22 dc22 pm22 an22 cd22 ct22), sl22⟩)
    (c22 : PySem.W.codeIn K cd22 "_law_honest" = true)
    (k22 : PySem.W.keepIn K (.ref f22) = true)
    (a23 : PySem.W.nsIn K mainGlobals "_law_says" = some (some (.ref f23)))
    (l23 : K.lookup f23 = some ⟨oc23, od23, .func (PySem.W.fnOf "_law_says" "_law_says" (defArgs st_law_says) (defBody st_law_says) (defScope st_law_says) .none kV23 dc23 pm23 an23 cd23 ct23), sl23⟩)
    (c23 : PySem.W.codeIn K cd23 "_law_says" = true)
    (k23 : PySem.W.keepIn K (.ref f23) = true)
    (a24 : PySem.W.nsIn K mainGlobals "_law_is_whole" = some (some (.ref f24)))
    (l24 : K.lookup f24 = some ⟨oc24, od24, .func (PySem.W.fnOf "_law_is_whole" "_law_is_whole" (defArgs st_law_is_whole) (defBody st_law_is_whole) (defScope st_law_is_whole) .none kV24 dc24 pm24 an24 cd24 ct24), sl24⟩)
    (c24 : PySem.W.codeIn K cd24 "_law_is_whole" = true)
    (k24 : PySem.W.keepIn K (.ref f24) = true)
    (a25 : PySem.W.nsIn K mainGlobals "_law_same" = some (some (.ref f25)))
    (l25 : K.lookup f25 = some ⟨oc25, od25, .func (PySem.W.fnOf "_law_same" "_law_same" (defArgs st_law_same) (defBody st_law_same) (defScope st_law_same) .none kV25 dc25 pm25 an25 cd25 ct25), sl25⟩)
    (c25 : PySem.W.codeIn K cd25 "_law_same" = true)
    (k25 : PySem.W.keepIn K (.ref f25) = true)
    (a26 : PySem.W.nsIn K mainGlobals "_law_gcd" = some (some (.ref f26)))
    (l26 : K.lookup f26 = some ⟨oc26, od26, .func (PySem.W.fnOf "_law_gcd" "_law_gcd" (defArgs st_law_gcd) (defBody st_law_gcd) (defScope st_law_gcd) .none kV26 dc26 pm26 an26 cd26 ct26), sl26⟩)
    (c26 : PySem.W.codeIn K cd26 "_law_gcd" = true)
    (k26 : PySem.W.keepIn K (.ref f26) = true)
    (a27 : PySem.W.nsIn K mainGlobals "_law_lot_sums" = some (some (.ref f27)))
    (l27 : K.lookup f27 = some ⟨oc27, od27, .func (PySem.W.fnOf "_law_lot_sums" "_law_lot_sums" (defArgs st_law_lot_sums) (defBody st_law_lot_sums) (defScope st_law_lot_sums) .none kV27 dc27 pm27 an27 cd27 ct27), sl27⟩)
    (c27 : PySem.W.codeIn K cd27 "_law_lot_sums" = true)
    (k27 : PySem.W.keepIn K (.ref f27) = true)
    (a28 : PySem.W.nsIn K mainGlobals "_law_least" = some (some (.ref f28)))
    (l28 : K.lookup f28 = some ⟨oc28, od28, .func (PySem.W.fnOf "_law_least" "_law_least" (defArgs st_law_least) (defBody st_law_least) (defScope st_law_least) .none kV28 dc28 pm28 an28 cd28 ct28), sl28⟩)
    (c28 : PySem.W.codeIn K cd28 "_law_least" = true)
    (k28 : PySem.W.keepIn K (.ref f28) = true)
    (a29 : PySem.W.nsIn K mainGlobals "_law_apery" = some (some (.ref f29)))
    (l29 : K.lookup f29 = some ⟨oc29, od29, .func (PySem.W.fnOf "_law_apery" "_law_apery" (defArgs st_law_apery) (defBody st_law_apery) (defScope st_law_apery) .none kV29 dc29 pm29 an29 cd29 ct29), sl29⟩)
    (c29 : PySem.W.codeIn K cd29 "_law_apery" = true)
    (k29 : PySem.W.keepIn K (.ref f29) = true)
    (a30 : PySem.W.nsIn K mainGlobals "_law_lot_conductor" = some (some (.ref f30)))
    (l30 : K.lookup f30 = some ⟨oc30, od30, .func (PySem.W.fnOf "_law_lot_conductor" "_law_lot_conductor" (defArgs st_law_lot_conductor) (defBody st_law_lot_conductor) (defScope st_law_lot_conductor) .none kV30 dc30 pm30 an30 cd30 ct30), sl30⟩)
    (c30 : PySem.W.codeIn K cd30 "_law_lot_conductor" = true)
    (k30 : PySem.W.keepIn K (.ref f30) = true)
    (a31 : PySem.W.nsIn K mainGlobals "_law_is_lot" = some (some (.ref f31)))
    (l31 : K.lookup f31 = some ⟨oc31, od31, .func (PySem.W.fnOf "_law_is_lot" "_law_is_lot" (defArgs st_law_is_lot) (defBody st_law_is_lot) (defScope st_law_is_lot) .none kV31 dc31 pm31 an31 cd31 ct31), sl31⟩)
    (c31 : PySem.W.codeIn K cd31 "_law_is_lot" = true)
    (k31 : PySem.W.keepIn K (.ref f31) = true)
    (a32 : PySem.W.nsIn K mainGlobals "_law_lot" = some (some (.ref f32)))
    (l32 : K.lookup f32 = some ⟨oc32, od32, .func (PySem.W.fnOf "_law_lot" "_law_lot" (defArgs st_law_lot) (defBody st_law_lot) (defScope st_law_lot) .none kV32 dc32 pm32 an32 cd32 ct32), sl32⟩)
    (c32 : PySem.W.codeIn K cd32 "_law_lot" = true)
    (k32 : PySem.W.keepIn K (.ref f32) = true)
    (a33 : PySem.W.nsIn K mainGlobals "_law_bad_lots" = some (some (.ref f33)))
    (l33 : K.lookup f33 = some ⟨oc33, od33, .func (PySem.W.fnOf "_law_bad_lots" "_law_bad_lots" (defArgs st_law_bad_lots) (defBody st_law_bad_lots) (defScope st_law_bad_lots) .none kV33 dc33 pm33 an33 cd33 ct33), sl33⟩)
    (c33 : PySem.W.codeIn K cd33 "_law_bad_lots" = true)
    (k33 : PySem.W.keepIn K (.ref f33) = true)
    (a34 : PySem.W.nsIn K mainGlobals "_law_told" = some (some (.ref f34)))
    (l34 : K.lookup f34 = some ⟨oc34, od34, .func (PySem.W.fnOf "_law_told" "_law_told" (defArgs st_law_told) (defBody st_law_told) (defScope st_law_told) .none kV34 dc34 pm34 an34 cd34 ct34), sl34⟩)
    (c34 : PySem.W.codeIn K cd34 "_law_told" = true)
    (k34 : PySem.W.keepIn K (.ref f34) = true)
    (a35 : PySem.W.nsIn K mainGlobals "_law_small_right" = some (some (.ref f35)))
    (l35 : K.lookup f35 = some ⟨oc35, od35, .func (PySem.W.fnOf "_law_small_right" "_law_small_right" (defArgs st_law_small_right) (defBody st_law_small_right) (defScope st_law_small_right) .none kV35 dc35 pm35 an35 cd35 ct35), sl35⟩)
    (c35 : PySem.W.codeIn K cd35 "_law_small_right" = true)
    (k35 : PySem.W.keepIn K (.ref f35) = true)
    (a36 : PySem.W.nsIn K mainGlobals "_law_great_right" = some (some (.ref f36)))
    (l36 : K.lookup f36 = some ⟨oc36, od36, .func (PySem.W.fnOf "_law_great_right" "_law_great_right" (defArgs st_law_great_right) (defBody st_law_great_right) (defScope st_law_great_right) .none kV36 dc36 pm36 an36 cd36 ct36), sl36⟩)
    (c36 : PySem.W.codeIn K cd36 "_law_great_right" = true)
    (k36 : PySem.W.keepIn K (.ref f36) = true)
    (a37 : PySem.W.nsIn K mainGlobals "_law_values_right" = some (some (.ref f37)))
    (l37 : K.lookup f37 = some ⟨oc37, od37, .func (PySem.W.fnOf "_law_values_right" "_law_values_right" (defArgs st_law_values_right) (defBody st_law_values_right) (defScope st_law_values_right) .none kV37 dc37 pm37 an37 cd37 ct37), sl37⟩)
    (c37 : PySem.W.codeIn K cd37 "_law_values_right" = true)
    (k37 : PySem.W.keepIn K (.ref f37) = true)
    (a38 : PySem.W.nsIn K mainGlobals "_law_of_right" = some (some (.ref f38)))
    (l38 : K.lookup f38 = some ⟨oc38, od38, .func (PySem.W.fnOf "_law_of_right" "_law_of_right" (defArgs st_law_of_right) (defBody st_law_of_right) (defScope st_law_of_right) .none kV38 dc38 pm38 an38 cd38 ct38), sl38⟩)
    (c38 : PySem.W.codeIn K cd38 "_law_of_right" = true)
    (k38 : PySem.W.keepIn K (.ref f38) = true)
    (a39 : PySem.W.nsIn K mainGlobals "law" = some (some (.ref f39)))
    (l39 : K.lookup f39 = some ⟨oc39, od39, .func (PySem.W.fnOf "law" "law" (defArgs stlaw) (defBody stlaw) (defScope stlaw) .none kV39 dc39 pm39 an39 cd39 ct39), sl39⟩)
    (c39 : PySem.W.codeIn K cd39 "law" = true)
    (k39 : PySem.W.keepIn K (.ref f39) = true)
    (aM : PySem.W.nsIn K mainGlobals "Malformed" = some (some (.ref CM)))
    (aR : PySem.W.nsIn K mainGlobals "Refused" = some (some (.ref CR)))
    (xM : PySem.W.excIn K CM [.type "ValueError", .type "Exception", .type "BaseException", .type "object"] "ValueError.__new__" = true)
    (xR : K.lookup CR = some (excClassObj nmR qR CR NR bsR [.ref CF, .type "ValueError", .type "Exception", .type "BaseException", .type "object"] true snR subR abR colR ddR mR0 mR1 mR2 mR3 mR5 "ValueError.__new__"))
    (kM : PySem.W.keepIn K (.ref CM) = true)
    (kR : PySem.W.keepIn K (.ref CR) = true)
    (bM : PySem.W.subIn K (.ref CM) (.type "BaseException") = some true)
    (bR : PySem.W.subIn K (.ref CR) (.type "BaseException") = some true)
    (tM : PySem.W.typeIn K (.ref CM) = some (.type "type"))
    (tR : PySem.W.typeIn K (.ref CR) = some (.type "type"))
    (iM : PySem.W.isClsIn K CM = true)
    (iR : PySem.W.isClsIn K CR = true)
    (sMM : PySem.W.subIn K (.ref CM) (.ref CM) = some true)
    (sMR : PySem.W.subIn K (.ref CM) (.ref CR) = some false)
    (sRM : PySem.W.subIn K (.ref CR) (.ref CM) = some false)
    (sRR : PySem.W.subIn K (.ref CR) (.ref CR) = some true)
    (gaR : PySem.W.findIn K (.ref CR) "__getattribute__" = some (some (.builtin "BaseException.__getattribute__")))
    (ggR : PySem.W.findIn K (.ref CR) "__getattr__" = some none)
    (hdR : PySem.W.hasDictIn K CR = true)
    (saR : PySem.W.findIn K (.ref CR) "__setattr__" = some (some (.builtin "object.__setattr__")))
    (nnR : PySem.W.findIn K (.ref CR) "reason" = some none)
    (inR : PySem.W.findIn K (.ref CR) "__init__" = some (some (.ref fR)))
    (tfnR : PySem.W.typeIn K (.ref fR) = some (.type "function"))
    (suR : PySem.W.ks_superIn K CR CR "__init__" = some (some (.builtin "ValueError.__init__")))
    (mroR : PySem.W.mroIn K CR (.ref CR) = some true)
    (sveR : PySem.W.subIn K (.ref CR) (.type "ValueError") = some true)
    (anyR : PySem.W.nsIn K cStatics "thirdparty.any" = some none)
    (supR : PySem.W.nsIn K mainGlobals "super" = some none)
    (lR : K.lookup fR = some ⟨ocR, odR, .func (PySem.W.ksFn "__init__" qn (PySem.RefX.rA ⟨8, 17, 8, 21⟩ ⟨8, 23, 8, 29⟩) (PySem.RefX.rB ⟨9, 8, 9, 13⟩ ⟨9, 8, 9, 15⟩ ⟨9, 8, 9, 24⟩ ⟨9, 25, 9, 31⟩ ⟨9, 8, 9, 32⟩ ⟨9, 8, 9, 32⟩ ⟨10, 8, 10, 12⟩ ⟨10, 8, 10, 19⟩ ⟨10, 22, 10, 28⟩ ⟨10, 8, 10, 28⟩) PySem.RefX.rS .none .none dcR pmR anR (.ref cda) ctR cc), oslR⟩)
    (cR : PySem.W.codeIn K (.ref cda) qn = true)
    (lcR : K.lookup cda = some ⟨cclR, cddR, .fields vsR, ccsR⟩)
    (vR : vsR[2]? = some (.str fileR tfR))
    (fiR : ((PySem.Challenge.pw_germroads_k45_whole_lots_and_their_gaps.main.file : Str) == fileR) = true)
    (lccR : K.lookup cc = some ⟨clR, cldR, .cell (some (.ref CR)), cslR⟩)
    : ∃ fd : FuncData, (∀ (s : Shared) (v : Value), BindsTo s fd ⟨[v], []⟩ [("script", v)]) ∧ ∀ base : Heap, K.In base → base.Ns mainGlobals mg → FnOk PySem.Challenge.pw_germroads_k45_whole_lots_and_their_gaps w K mg base (L2.CX PySem.Challenge.pw_germroads_k45_whole_lots_and_their_gaps w) 12 fa fd ["script"] (spLaw K 63) := by
  have e := hfa.symm.trans (PySem.W.mg_of X G a39)
  cases e
  have B : Bn mg := ⟨PySem.W.mg_none_of X G z_abs, PySem.W.mg_none_of X G z_all, PySem.W.mg_none_of X G z_any, PySem.W.mg_none_of X G z_bool, PySem.W.mg_none_of X G z_enumerate, PySem.W.mg_none_of X G z_int, PySem.W.mg_none_of X G z_isinstance, PySem.W.mg_none_of X G z_len, PySem.W.mg_none_of X G z_list, PySem.W.mg_none_of X G z_max, PySem.W.mg_none_of X G z_min, PySem.W.mg_none_of X G z_range, PySem.W.mg_none_of X G z_set, PySem.W.mg_none_of X G z_sorted, PySem.W.mg_none_of X G z_str, PySem.W.mg_none_of X G z_sum, PySem.W.mg_none_of X G z_tuple, PySem.W.mg_none_of X G z_zip⟩
  have C : Cs ⟨K, mg⟩ := ⟨.of_int (PySem.W.mg_of X G y_MOST_CONDUCTOR), .of_int (PySem.W.mg_of X G y_MOST_GENERATOR), .of_int (PySem.W.mg_of X G y_MOST_GENERATORS), .of_int (PySem.W.mg_of X G y_MOST_GIVEN)⟩
  have RT : PySem.RefX.RefTxt PySem.Challenge.pw_germroads_k45_whole_lots_and_their_gaps K mg "Refused" CR fR :=
    { gC := PySem.W.mg_of X G aR, cls := ⟨nmR, qR, NR, bsR, _, snR, subR, abR, colR, ddR, mR0, mR1, mR2, mR3, mR5, xR, by rfl⟩, sup := suR, sub := mroR, sVE := sveR, any := anyR, gS := PySem.W.mg_none_of X G supR, sa := saR, noN := nnR, iC := inR, tC := tfnR, kC := kR, exC := bR, tyC := tR, htop := by rfl,
      fn := ⟨_, _, _, _, _, _, _, _, _, _, _, _, _, _, _, _, _, _, _, _, _, _, lR, by rfl, cR, ⟨_, _, _, _, _, _, lcR, vR, fiR⟩, _, _, _, lccR⟩ }
  have T : Errs PySem.Challenge.pw_germroads_k45_whole_lots_and_their_gaps K mg CM CR fR := ⟨RT, PySem.W.mg_of X G aM, xM, kM, bM, tM, iM, iR, sMM, sMR, sRM, sRR, ⟨gaR, ggR, bR, hdR⟩⟩
  have F0 := fun_mk (st := stis_integer) l0 c0 k0
  have b0 := F0.binds (ps := ["value"]) fun _ _ _ _ _ _ us hl => match us, hl with | [_], _ => rfl
  have F1 := fun_mk (st := stgreatest_common) l1 c1 k1
  have b1 := F1.binds (ps := ["a", "b"]) fun _ _ _ _ _ _ us hl => match us, hl with | [_, _], _ => rfl
  have F2 := fun_mk (st := stcommon_of) l2 c2 k2
  have b2 := F2.binds (ps := ["items"]) fun _ _ _ _ _ _ us hl => match us, hl with | [_], _ => rfl
  have F3 := fun_mk (st := stleast_of) l3 c3 k3
  have b3 := F3.binds (ps := ["items"]) fun _ _ _ _ _ _ us hl => match us, hl with | [_], _ => rfl
  have F4 := fun_mk (st := stare_generators) l4 c4 k4
  have b4 := F4.binds (ps := ["value", "most"]) fun _ _ _ _ _ _ us hl => match us, hl with | [_, _], _ => rfl
  have F5 := fun_mk (st := stis_lot) l5 c5 k5
  have b5 := F5.binds (ps := ["value"]) fun _ _ _ _ _ _ us hl => match us, hl with | [_], _ => rfl
  have F6 := fun_mk (st := stcheck_lot) l6 c6 k6
  have b6 := F6.binds (ps := ["lot"]) fun _ _ _ _ _ _ us hl => match us, hl with | [_], _ => rfl
  have F7 := fun_mk (st := stbounded) l7 c7 k7
  have b7 := F7.binds (ps := ["items"]) fun _ _ _ _ _ _ us hl => match us, hl with | [_], _ => rfl
  have F8 := fun_mk (st := stlot_of) l8 c8 k8
  have b8 := F8.binds (ps := ["generators"]) fun _ _ _ _ _ _ us hl => match us, hl with | [_], _ => rfl
  have F9 := fun_mk (st := stapery_of) l9 c9 k9
  have b9 := F9.binds (ps := ["lot", "m"]) fun _ _ _ _ _ _ us hl => match us, hl with | [_, _], _ => rfl
  have F10 := fun_mk (st := stholds) l10 c10 k10
  have b10 := F10.binds (ps := ["lot", "k"]) fun _ _ _ _ _ _ us hl => match us, hl with | [_, _], _ => rfl
  have F11 := fun_mk (st := stlot_holds) l11 c11 k11
  have b11 := F11.binds (ps := ["lot", "k"]) fun _ _ _ _ _ _ us hl => match us, hl with | [_, _], _ => rfl
  have F12 := fun_mk (st := stlot_apery) l12 c12 k12
  have b12 := F12.binds (ps := ["lot", "m"]) fun _ _ _ _ _ _ us hl => match us, hl with | [_, _], _ => rfl
  have F13 := fun_mk (st := stconductor_of_lot) l13 c13 k13
  have b13 := F13.binds (ps := ["lot"]) fun _ _ _ _ _ _ us hl => match us, hl with | [_], _ => rfl
  have F14 := fun_mk (st := stgenus_of_lot) l14 c14 k14
  have b14 := F14.binds (ps := ["lot"]) fun _ _ _ _ _ _ us hl => match us, hl with | [_], _ => rfl
  have F15 := fun_mk (st := stlot_conductor) l15 c15 k15
  have b15 := F15.binds (ps := ["lot"]) fun _ _ _ _ _ _ us hl => match us, hl with | [_], _ => rfl
  have F16 := fun_mk (st := stlot_genus) l16 c16 k16
  have b16 := F16.binds (ps := ["lot"]) fun _ _ _ _ _ _ us hl => match us, hl with | [_], _ => rfl
  have F17 := fun_mk (st := stmembers_to) l17 c17 k17
  have b17 := F17.binds (ps := ["lot", "most"]) fun _ _ _ _ _ _ us hl => match us, hl with | [_, _], _ => rfl
  have F18 := fun_mk (st := stlot_gaps) l18 c18 k18
  have b18 := F18.binds (ps := ["lot"]) fun _ _ _ _ _ _ us hl => match us, hl with | [_], _ => rfl
  have F19 := fun_mk (st := st_law_state) l19 c19 k19
  have b19 := F19.binds (ps := ["script"]) fun _ _ _ _ _ _ us hl => match us, hl with | [_], _ => rfl
  have F20 := fun_mk (st := st_law_take) l20 c20 k20
  have b20 := F20.binds (ps := ["state", "m"]) fun _ _ _ _ _ _ us hl => match us, hl with | [_, _], _ => rfl
  have F21 := fun_mk (st := st_law_odd) l21 c21 k21
  have b21 := F21.binds (ps := ["value"]) fun _ _ _ _ _ _ us hl => match us, hl with | [_], _ => rfl
  have F22 := fun_mk (st := st_law_honest) l22 c22 k22
  have b22 := F22.binds (ps := ["value"]) fun _ _ _ _ _ _ us hl => match us, hl with | [_], _ => rfl
  have F23 := fun_mk (st := st_law_says) l23 c23 k23
  have b23 := F23.binds (ps := ["value", "due"]) fun _ _ _ _ _ _ us hl => match us, hl with | [_, _], _ => rfl
  have F24 := fun_mk (st := st_law_is_whole) l24 c24 k24
  have b24 := F24.binds (ps := ["value"]) fun _ _ _ _ _ _ us hl => match us, hl with | [_], _ => rfl
  have F25 := fun_mk (st := st_law_same) l25 c25 k25
  have b25 := F25.binds (ps := ["one", "two"]) fun _ _ _ _ _ _ us hl => match us, hl with | [_, _], _ => rfl
  have F26 := fun_mk (st := st_law_gcd) l26 c26 k26
  have b26 := F26.binds (ps := ["items"]) fun _ _ _ _ _ _ us hl => match us, hl with | [_], _ => rfl
  have F27 := fun_mk (st := st_law_lot_sums) l27 c27 k27
  have b27 := F27.binds (ps := ["lot", "most"]) fun _ _ _ _ _ _ us hl => match us, hl with | [_, _], _ => rfl
  have F28 := fun_mk (st := st_law_least) l28 c28 k28
  have b28 := F28.binds (ps := ["items"]) fun _ _ _ _ _ _ us hl => match us, hl with | [_], _ => rfl
  have F29 := fun_mk (st := st_law_apery) l29 c29 k29
  have b29 := F29.binds (ps := ["lot", "m"]) fun _ _ _ _ _ _ us hl => match us, hl with | [_, _], _ => rfl
  have F30 := fun_mk (st := st_law_lot_conductor) l30 c30 k30
  have b30 := F30.binds (ps := ["lot"]) fun _ _ _ _ _ _ us hl => match us, hl with | [_], _ => rfl
  have F31 := fun_mk (st := st_law_is_lot) l31 c31 k31
  have b31 := F31.binds (ps := ["value"]) fun _ _ _ _ _ _ us hl => match us, hl with | [_], _ => rfl
  have F32 := fun_mk (st := st_law_lot) l32 c32 k32
  have b32 := F32.binds (ps := ["state", "many", "most"]) fun _ _ _ _ _ _ us hl => match us, hl with | [_, _, _], _ => rfl
  have F33 := fun_mk (st := st_law_bad_lots) l33 c33 k33
  have b33 := F33.binds (ps := []) fun _ _ _ _ _ _ us hl => match us, hl with | [], _ => rfl
  have F34 := fun_mk (st := st_law_told) l34 c34 k34
  have b34 := F34.binds (ps := ["which", "lot", "x"]) fun _ _ _ _ _ _ us hl => match us, hl with | [_, _, _], _ => rfl
  have F35 := fun_mk (st := st_law_small_right) l35 c35 k35
  have b35 := F35.binds (ps := ["state", "lot"]) fun _ _ _ _ _ _ us hl => match us, hl with | [_, _], _ => rfl
  have F36 := fun_mk (st := st_law_great_right) l36 c36 k36
  have b36 := F36.binds (ps := ["state", "lot"]) fun _ _ _ _ _ _ us hl => match us, hl with | [_, _], _ => rfl
  have F37 := fun_mk (st := st_law_values_right) l37 c37 k37
  have b37 := F37.binds (ps := ["state", "lot"]) fun _ _ _ _ _ _ us hl => match us, hl with | [_, _], _ => rfl
  have F38 := fun_mk (st := st_law_of_right) l38 c38 k38
  have b38 := F38.binds (ps := ["state"]) fun _ _ _ _ _ _ us hl => match us, hl with | [_], _ => rfl
  have F39 := fun_mk (st := stlaw) l39 c39 k39
  have b39 := F39.binds (ps := ["script"]) fun _ _ _ _ _ _ us hl => match us, hl with | [_], _ => rfl
  refine ⟨PySem.W.fnOf "law" "law" (defArgs stlaw) (defBody stlaw) (defScope stlaw) .none kV39 dc39 pm39 an39 cd39 ct39, fun s v => .of_eq rfl, fun base _ _ => ?_⟩
  have cis_integer : CalD PySem.Challenge.pw_germroads_k45_whole_lots_and_their_gaps w K mg base 1 "is_integer" Fis_integer := ⟨f0, _, _, PySem.W.mg_of X G a0, k0, b0, okis_integer F0 B⟩
  have cgreatest_common : CalD PySem.Challenge.pw_germroads_k45_whole_lots_and_their_gaps w K mg base 1 "greatest_common" Fgreatest_common := ⟨f1, _, _, PySem.W.mg_of X G a1, k1, b1, okgreatest_common F1 B⟩
  have ccommon_of : CalD PySem.Challenge.pw_germroads_k45_whole_lots_and_their_gaps w K mg base 2 "common_of" Fcommon_of := ⟨f2, _, _, PySem.W.mg_of X G a2, k2, b2, okcommon_of F2 cgreatest_common⟩
  have cleast_of : CalD PySem.Challenge.pw_germroads_k45_whole_lots_and_their_gaps w K mg base 1 "least_of" Fleast_of := ⟨f3, _, _, PySem.W.mg_of X G a3, k3, b3, okleast_of F3 B⟩
  have care_generators : CalD PySem.Challenge.pw_germroads_k45_whole_lots_and_their_gaps w K mg base 2 "are_generators" Fare_generators := ⟨f4, _, _, PySem.W.mg_of X G a4, k4, b4, okare_generators F4 B C cis_integer⟩
  have cis_lot : CalD PySem.Challenge.pw_germroads_k45_whole_lots_and_their_gaps w K mg base 3 "is_lot" Fis_lot := ⟨f5, _, _, PySem.W.mg_of X G a5, k5, b5, okis_lot F5 B C care_generators ccommon_of cleast_of⟩
  have ccheck_lot : CalD PySem.Challenge.pw_germroads_k45_whole_lots_and_their_gaps w K mg base 4 "check_lot" Fcheck_lot := ⟨f6, _, _, PySem.W.mg_of X G a6, k6, b6, okcheck_lot F6 T cis_lot⟩
  have cbounded : CalD PySem.Challenge.pw_germroads_k45_whole_lots_and_their_gaps w K mg base 2 "bounded" Fbounded := ⟨f7, _, _, PySem.W.mg_of X G a7, k7, b7, okbounded F7 B C T⟩
  have clot_of : CalD PySem.Challenge.pw_germroads_k45_whole_lots_and_their_gaps w K mg base 3 "lot_of" Flot_of := ⟨f8, _, _, PySem.W.mg_of X G a8, k8, b8, oklot_of F8 C T care_generators cbounded ccommon_of cleast_of⟩
  have capery_of : CalD PySem.Challenge.pw_germroads_k45_whole_lots_and_their_gaps w K mg base 2 "apery_of" Fapery_of := ⟨f9, _, _, PySem.W.mg_of X G a9, k9, b9, okapery_of F9 B cgreatest_common⟩
  have cholds : CalD PySem.Challenge.pw_germroads_k45_whole_lots_and_their_gaps w K mg base 3 "holds" Fholds := ⟨f10, _, _, PySem.W.mg_of X G a10, k10, b10, okholds F10 capery_of⟩
  have clot_holds : CalD PySem.Challenge.pw_germroads_k45_whole_lots_and_their_gaps w K mg base 5 "lot_holds" Flot_holds := ⟨f11, _, _, PySem.W.mg_of X G a11, k11, b11, oklot_holds F11 T ccheck_lot cholds cis_integer⟩
  have clot_apery : CalD PySem.Challenge.pw_germroads_k45_whole_lots_and_their_gaps w K mg base 5 "lot_apery" Flot_apery := ⟨f12, _, _, PySem.W.mg_of X G a12, k12, b12, oklot_apery F12 B C T capery_of ccheck_lot cholds cis_integer⟩
  have cconductor_of_lot : CalD PySem.Challenge.pw_germroads_k45_whole_lots_and_their_gaps w K mg base 3 "conductor_of_lot" Fconductor_of_lot := ⟨f13, _, _, PySem.W.mg_of X G a13, k13, b13, okconductor_of_lot F13 B capery_of⟩
  have cgenus_of_lot : CalD PySem.Challenge.pw_germroads_k45_whole_lots_and_their_gaps w K mg base 3 "genus_of_lot" Fgenus_of_lot := ⟨f14, _, _, PySem.W.mg_of X G a14, k14, b14, okgenus_of_lot F14 B capery_of⟩
  have clot_conductor : CalD PySem.Challenge.pw_germroads_k45_whole_lots_and_their_gaps w K mg base 5 "lot_conductor" Flot_conductor := ⟨f15, _, _, PySem.W.mg_of X G a15, k15, b15, oklot_conductor F15 ccheck_lot cconductor_of_lot⟩
  have clot_genus : CalD PySem.Challenge.pw_germroads_k45_whole_lots_and_their_gaps w K mg base 5 "lot_genus" Flot_genus := ⟨f16, _, _, PySem.W.mg_of X G a16, k16, b16, oklot_genus F16 ccheck_lot cgenus_of_lot⟩
  have cmembers_to : CalD PySem.Challenge.pw_germroads_k45_whole_lots_and_their_gaps w K mg base 3 "members_to" Fmembers_to := ⟨f17, _, _, PySem.W.mg_of X G a17, k17, b17, okmembers_to F17 B capery_of⟩
  have clot_gaps : CalD PySem.Challenge.pw_germroads_k45_whole_lots_and_their_gaps w K mg base 5 "lot_gaps" Flot_gaps := ⟨f18, _, _, PySem.W.mg_of X G a18, k18, b18, oklot_gaps F18 B C T ccheck_lot cconductor_of_lot cmembers_to⟩
  have c_law_state : CalD PySem.Challenge.pw_germroads_k45_whole_lots_and_their_gaps w K mg base 1 "_law_state" F_law_state := ⟨f19, _, _, PySem.W.mg_of X G a19, k19, b19, ok_law_state F19 B⟩
  have c_law_take : CalD PySem.Challenge.pw_germroads_k45_whole_lots_and_their_gaps w K mg base 1 "_law_take" F_law_take := ⟨f20, _, _, PySem.W.mg_of X G a20, k20, b20, ok_law_take F20 B⟩
  have c_law_odd : CalD PySem.Challenge.pw_germroads_k45_whole_lots_and_their_gaps w K mg base 8 "_law_odd" (F_law_odd 8) := ⟨f21, _, _, PySem.W.mg_of X G a21, k21, b21, ok_law_odd F21 B (PySem.W.mg_of X G a21) k21 b21 8⟩
  have c_law_honest : CalD PySem.Challenge.pw_germroads_k45_whole_lots_and_their_gaps w K mg base 9 "_law_honest" F_law_honest := ⟨f22, _, _, PySem.W.mg_of X G a22, k22, b22, ok_law_honest F22 c_law_odd⟩
  have c_law_says : CalD PySem.Challenge.pw_germroads_k45_whole_lots_and_their_gaps w K mg base 1 "_law_says" F_law_says := ⟨f23, _, _, PySem.W.mg_of X G a23, k23, b23, ok_law_says F23 B⟩
  have c_law_is_whole : CalD PySem.Challenge.pw_germroads_k45_whole_lots_and_their_gaps w K mg base 1 "_law_is_whole" F_law_is_whole := ⟨f24, _, _, PySem.W.mg_of X G a24, k24, b24, ok_law_is_whole F24 B⟩
  have c_law_same : CalD PySem.Challenge.pw_germroads_k45_whole_lots_and_their_gaps w K mg base 9 "_law_same" (F_law_same 8) := ⟨f25, _, _, PySem.W.mg_of X G a25, k25, b25, ok_law_same F25 B c_law_is_whole (PySem.W.mg_of X G a25) k25 b25 8⟩
  have c_law_gcd : CalD PySem.Challenge.pw_germroads_k45_whole_lots_and_their_gaps w K mg base 1 "_law_gcd" F_law_gcd := ⟨f26, _, _, PySem.W.mg_of X G a26, k26, b26, ok_law_gcd F26 B⟩
  have c_law_lot_sums : CalD PySem.Challenge.pw_germroads_k45_whole_lots_and_their_gaps w K mg base 1 "_law_lot_sums" F_law_lot_sums := ⟨f27, _, _, PySem.W.mg_of X G a27, k27, b27, ok_law_lot_sums F27 B⟩
  have c_law_least : CalD PySem.Challenge.pw_germroads_k45_whole_lots_and_their_gaps w K mg base 1 "_law_least" F_law_least := ⟨f28, _, _, PySem.W.mg_of X G a28, k28, b28, ok_law_least F28 B⟩
  have c_law_apery : CalD PySem.Challenge.pw_germroads_k45_whole_lots_and_their_gaps w K mg base 2 "_law_apery" F_law_apery := ⟨f29, _, _, PySem.W.mg_of X G a29, k29, b29, ok_law_apery F29 B c_law_gcd⟩
  have c_law_lot_conductor : CalD PySem.Challenge.pw_germroads_k45_whole_lots_and_their_gaps w K mg base 3 "_law_lot_conductor" F_law_lot_conductor := ⟨f30, _, _, PySem.W.mg_of X G a30, k30, b30, ok_law_lot_conductor F30 B c_law_apery⟩
  have c_law_is_lot : CalD PySem.Challenge.pw_germroads_k45_whole_lots_and_their_gaps w K mg base 2 "_law_is_lot" F_law_is_lot := ⟨f31, _, _, PySem.W.mg_of X G a31, k31, b31, ok_law_is_lot F31 B c_law_gcd c_law_is_whole c_law_least⟩
  have c_law_lot : CalD PySem.Challenge.pw_germroads_k45_whole_lots_and_their_gaps w K mg base 2 "_law_lot" F_law_lot := ⟨f32, _, _, PySem.W.mg_of X G a32, k32, b32, ok_law_lot F32 B c_law_gcd c_law_least c_law_take⟩
  have c_law_bad_lots : CalD PySem.Challenge.pw_germroads_k45_whole_lots_and_their_gaps w K mg base 1 "_law_bad_lots" F_law_bad_lots := ⟨f33, _, _, PySem.W.mg_of X G a33, k33, b33, ok_law_bad_lots F33 B⟩
  have c_law_told : CalD PySem.Challenge.pw_germroads_k45_whole_lots_and_their_gaps w K mg base 10 "_law_told" F_law_told := ⟨f34, _, _, PySem.W.mg_of X G a34, k34, b34, ok_law_told F34 T c_law_honest clot_apery clot_conductor clot_gaps clot_genus clot_holds clot_of⟩
  have c_law_small_right : CalD PySem.Challenge.pw_germroads_k45_whole_lots_and_their_gaps w K mg base 11 "_law_small_right" F_law_small_right := ⟨f35, _, _, PySem.W.mg_of X G a35, k35, b35, ok_law_small_right F35 B c_law_apery c_law_lot_conductor c_law_lot_sums c_law_same c_law_says c_law_take c_law_told⟩
  have c_law_great_right : CalD PySem.Challenge.pw_germroads_k45_whole_lots_and_their_gaps w K mg base 11 "_law_great_right" F_law_great_right := ⟨f36, _, _, PySem.W.mg_of X G a36, k36, b36, ok_law_great_right F36 B c_law_apery c_law_lot_conductor c_law_same c_law_says c_law_take c_law_told⟩
  have c_law_values_right : CalD PySem.Challenge.pw_germroads_k45_whole_lots_and_their_gaps w K mg base 11 "_law_values_right" F_law_values_right := ⟨f37, _, _, PySem.W.mg_of X G a37, k37, b37, ok_law_values_right F37 B c_law_bad_lots c_law_is_lot c_law_says c_law_take c_law_told cis_lot⟩
  have c_law_of_right : CalD PySem.Challenge.pw_germroads_k45_whole_lots_and_their_gaps w K mg base 11 "_law_of_right" F_law_of_right := ⟨f38, _, _, PySem.W.mg_of X G a38, k38, b38, ok_law_of_right F38 B c_law_gcd c_law_least c_law_same c_law_take c_law_told⟩
  have oL : FnOk PySem.Challenge.pw_germroads_k45_whole_lots_and_their_gaps w K mg base (L2.CX PySem.Challenge.pw_germroads_k45_whole_lots_and_their_gaps w) 12 _ _ _ _ := oklaw F39 B c_law_great_right c_law_lot c_law_of_right c_law_small_right c_law_state c_law_take c_law_told c_law_values_right
  exact oL.imp (law_sp law_true)
end Mp
open PySem PySem.W PyProof.Rows
set_option maxHeartbeats 0 in
theorem PySem.Challenge.cw_germroads_k45_whole_lots_and_their_gaps_holds : PySem.Challenge.rw_germroads_k45_whole_lots_and_their_gaps.Holds := by
  w_on; o_law; k_head; (case hw => w_witness2)
  k_fill
  refine L2.walk_of (l := PySem.Challenge.rw_germroads_k45_whole_lots_and_their_gaps) (n := 63) (k := 12) (x := "script") (CX := fun w => L2.CX PySem.Challenge.pw_germroads_k45_whole_lots_and_their_gaps w) (sp := fun w => Mp.spLaw _ 63) rfl (by decide) rfl ⟨rfl, by decide, by decide⟩ (fun w h Y => PySem.W.kIn_of Y) ?F (fun _ _ a ns hl hO hS => ⟨a, ns, rfl, hO, hS, hl, fun _ => rfl⟩) (fun _ _ _ _ _ h => Mp.cx_no _ _ _ _ h)
  case F =>
    intro w mg fa h KX G hmg
    refine' Mp.all_mk KX G hmg ?z_abs ?z_all ?z_any ?z_bool ?z_enumerate ?z_int ?z_isinstance ?z_len ?z_list ?z_max ?z_min ?z_range ?z_set ?z_sorted ?z_str ?z_sum ?z_tuple ?z_zip ?y_MOST_CONDUCTOR ?y_MOST_GENERATOR ?y_MOST_GENERATORS ?y_MOST_GIVEN ?a0 ?l0 ?c0 ?k0 ?a1 ?l1 ?c1 ?k1 ?a2 ?l2 ?c2 ?k2 ?a3 ?l3 ?c3 ?k3 ?a4 ?l4 ?c4 ?k4 ?a5 ?l5 ?c5 ?k5 ?a6 ?l6 ?c6 ?k6 ?a7 ?l7 ?c7 ?k7 ?a8 ?l8 ?c8 ?k8 ?a9 ?l9 ?c9 ?k9 ?a10 ?l10 ?c10 ?k10 ?a11 ?l11 ?c11 ?k11 ?a12 ?l12 ?c12 ?k12 ?a13 ?l13 ?c13 ?k13 ?a14 ?l14 ?c14 ?k14 ?a15 ?l15 ?c15 ?k15 ?a16 ?l16 ?c16 ?k16 ?a17 ?l17 ?c17 ?k17 ?a18 ?l18 ?c18 ?k18 ?a19 ?l19 ?c19 ?k19 ?a20 ?l20 ?c20 ?k20 ?a21 ?l21 ?c21 ?k21 ?a22 ?l22 ?c22 ?k22 ?a23 ?l23 ?c23 ?k23 ?a24 ?l24 ?c24 ?k24 ?a25 ?l25 ?c25 ?k25 ?a26 ?l26 ?c26 ?k26 ?a27 ?l27 ?c27 ?k27 ?a28 ?l28 ?c28 ?k28 ?a29 ?l29 ?c29 ?k29 ?a30 ?l30 ?c30 ?k30 ?a31 ?l31 ?c31 ?k31 ?a32 ?l32 ?c32 ?k32 ?a33 ?l33 ?c33 ?k33 ?a34 ?l34 ?c34 ?k34 ?a35 ?l35 ?c35 ?k35 ?a36 ?l36 ?c36 ?k36 ?a37 ?l37 ?c37 ?k37 ?a38 ?l38 ?c38 ?k38 ?a39 ?l39 ?c39 ?k39 ?aM ?aR ?xM ?xR ?kM ?kR ?bM ?bR ?tM ?tR ?iM ?iR ?sMM ?sMR ?sRM ?sRR ?gaR ?ggR ?hdR ?saR ?nnR ?inR ?tfnR ?suR ?mroR ?sveR ?anyR ?supR ?lR ?cR ?lcR ?vR ?fiR ?lccR
    (case z_abs => k_is)
    (case z_all => k_is)
    (case z_any => k_is)
    (case z_bool => k_is)
    (case z_enumerate => k_is)
    (case z_int => k_is)
    (case z_isinstance => k_is)
    (case z_len => k_is)
    (case z_list => k_is)
    (case z_max => k_is)
    (case z_min => k_is)
    (case z_range => k_is)
    (case z_set => k_is)
    (case z_sorted => k_is)
    (case z_str => k_is)
    (case z_sum => k_is)
    (case z_tuple => k_is)
    (case z_zip => k_is)
    (case y_MOST_CONDUCTOR => k_is)
    (case y_MOST_GENERATOR => k_is)
    (case y_MOST_GENERATORS => k_is)
    (case y_MOST_GIVEN => k_is)
    (case a0 => k_is)
    (case l0 => k_is)
    (case c0 => k_is)
    (case k0 => k_is)
    (case a1 => k_is)
    (case l1 => k_is)
    (case c1 => k_is)
    (case k1 => k_is)
    (case a2 => k_is)
    (case l2 => k_is)
    (case c2 => k_is)
    (case k2 => k_is)
    (case a3 => k_is)
    (case l3 => k_is)
    (case c3 => k_is)
    (case k3 => k_is)
    (case a4 => k_is)
    (case l4 => k_is)
    (case c4 => k_is)
    (case k4 => k_is)
    (case a5 => k_is)
    (case l5 => k_is)
    (case c5 => k_is)
    (case k5 => k_is)
    (case a6 => k_is)
    (case l6 => k_is)
    (case c6 => k_is)
    (case k6 => k_is)
    (case a7 => k_is)
    (case l7 => k_is)
    (case c7 => k_is)
    (case k7 => k_is)
    (case a8 => k_is)
    (case l8 => k_is)
    (case c8 => k_is)
    (case k8 => k_is)
    (case a9 => k_is)
    (case l9 => k_is)
    (case c9 => k_is)
    (case k9 => k_is)
    (case a10 => k_is)
    (case l10 => k_is)
    (case c10 => k_is)
    (case k10 => k_is)
    (case a11 => k_is)
    (case l11 => k_is)
    (case c11 => k_is)
    (case k11 => k_is)
    (case a12 => k_is)
    (case l12 => k_is)
    (case c12 => k_is)
    (case k12 => k_is)
    (case a13 => k_is)
    (case l13 => k_is)
    (case c13 => k_is)
    (case k13 => k_is)
    (case a14 => k_is)
    (case l14 => k_is)
    (case c14 => k_is)
    (case k14 => k_is)
    (case a15 => k_is)
    (case l15 => k_is)
    (case c15 => k_is)
    (case k15 => k_is)
    (case a16 => k_is)
    (case l16 => k_is)
    (case c16 => k_is)
    (case k16 => k_is)
    (case a17 => k_is)
    (case l17 => k_is)
    (case c17 => k_is)
    (case k17 => k_is)
    (case a18 => k_is)
    (case l18 => k_is)
    (case c18 => k_is)
    (case k18 => k_is)
    (case a19 => k_is)
    (case l19 => k_is)
    (case c19 => k_is)
    (case k19 => k_is)
    (case a20 => k_is)
    (case l20 => k_is)
    (case c20 => k_is)
    (case k20 => k_is)
    (case a21 => k_is)
    (case l21 => k_is)
    (case c21 => k_is)
    (case k21 => k_is)
    (case a22 => k_is)
    (case l22 => k_is)
    (case c22 => k_is)
    (case k22 => k_is)
    (case a23 => k_is)
    (case l23 => k_is)
    (case c23 => k_is)
    (case k23 => k_is)
    (case a24 => k_is)
    (case l24 => k_is)
    (case c24 => k_is)
    (case k24 => k_is)
    (case a25 => k_is)
    (case l25 => k_is)
    (case c25 => k_is)
    (case k25 => k_is)
    (case a26 => k_is)
    (case l26 => k_is)
    (case c26 => k_is)
    (case k26 => k_is)
    (case a27 => k_is)
    (case l27 => k_is)
    (case c27 => k_is)
    (case k27 => k_is)
    (case a28 => k_is)
    (case l28 => k_is)
    (case c28 => k_is)
    (case k28 => k_is)
    (case a29 => k_is)
    (case l29 => k_is)
    (case c29 => k_is)
    (case k29 => k_is)
    (case a30 => k_is)
    (case l30 => k_is)
    (case c30 => k_is)
    (case k30 => k_is)
    (case a31 => k_is)
    (case l31 => k_is)
    (case c31 => k_is)
    (case k31 => k_is)
    (case a32 => k_is)
    (case l32 => k_is)
    (case c32 => k_is)
    (case k32 => k_is)
    (case a33 => k_is)
    (case l33 => k_is)
    (case c33 => k_is)
    (case k33 => k_is)
    (case a34 => k_is)
    (case l34 => k_is)
    (case c34 => k_is)
    (case k34 => k_is)
    (case a35 => k_is)
    (case l35 => k_is)
    (case c35 => k_is)
    (case k35 => k_is)
    (case a36 => k_is)
    (case l36 => k_is)
    (case c36 => k_is)
    (case k36 => k_is)
    (case a37 => k_is)
    (case l37 => k_is)
    (case c37 => k_is)
    (case k37 => k_is)
    (case a38 => k_is)
    (case l38 => k_is)
    (case c38 => k_is)
    (case k38 => k_is)
    (case a39 => k_is)
    (case l39 => k_is)
    (case c39 => k_is)
    (case k39 => k_is)
    (case aM => k_is)
    (case aR => k_is)
    (case xM => k_exc)
    (case xR => k_is)
    (case kM => k_is)
    (case kR => k_is)
    (case bM => k_is)
    (case bR => k_is)
    (case tM => k_is)
    (case tR => k_is)
    (case iM => k_is)
    (case iR => k_is)
    (case sMM => first | rfl | k_is)
    (case sMR => first | rfl | k_is)
    (case sRM => first | rfl | k_is)
    (case sRR => first | rfl | k_is)
    (case gaR => k_is)
    (case ggR => k_is)
    (case hdR => k_is)
    (case saR => k_is)
    (case nnR => k_is)
    (case inR => k_is)
    (case tfnR => k_is)
    (case suR => ks_is)
    (case mroR => k_is)
    (case sveR => k_is)
    (case anyR => k_is)
    (case supR => k_is)
    (case lR => k_is)
    (case cR => k_is)
    (case lcR => k_is)
    (case vR => rfl)
    (case fiR => first | rfl | decide +kernel)
    (case lccR => k_is)
