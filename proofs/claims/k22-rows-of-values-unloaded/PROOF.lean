import PyProof.Rows.All
import Wide.All
import OpenK.AllK
import Wide.FinOn
import HandS.ForMost
import HandS.ForExc
import HandS.IsInst
import HandS.Conv
import HandS.SortInts
import HandS.CallSlots
import HandS.Wide
import HandS.TupAny
import HandS.TupMul
import HandS.Deep
import HandS.TupLe
import HandS.Codes
import HandS.Walk
import HandS.Zip
import HandS.Style
import HandS.Exc
import HandS.ExcOwn
import HandS.ExcField
import KE.KExcSuper
import HandS.TryMany
import HandS.Words
import HandS.WordsExc
import HandS.Ends
import HandS.RaiseMore
import KE.KRevSl
import PyProof.Draws
import PyProof.EnumMake
import PyProof.WalksMore
import KE.SortData
import HandS.Dict
import KE.DataMinMax
import HandS.SetFor
import HandS.Strs
import HandS.TupSets
import HandS.Keys
import KE.RegKSuper
import PySem.Challenge.RW_germroads_k22_whole_rows_of_values_unloa
set_option Elab.async false
set_option linter.all false
set_option maxRecDepth 100000
set_option maxHeartbeats 4000000
namespace Mp
open PySem L2

/-! ## data and values -/
inductive D where
  | non | bl (b : Bool) | int (i : Int) | str (x : Str) | tup (xs : List D) | lst (xs : List D) | fn (x : Str)
  deriving Inhabited

mutual
def D.py : D → PyData
  | .non => .none
  | .bl b => .bool b
  | .int i => .int i
  | .str x => .str x
  | .tup xs => .tuple (D.pys xs)
  | .lst xs => .list (D.pys xs)
  | .fn _ => .none
def D.pys : List D → List PyData
  | [] => []
  | x :: r => x.py :: D.pys r
end
mutual
/-- no def within -/
def D.flat : D → Bool
  | .tup xs => D.flats xs
  | .lst xs => D.flats xs
  | .fn _ => false
  | _ => true
def D.flats : List D → Bool
  | [] => true
  | x :: r => x.flat && D.flats r
end
mutual
def D.beq : D → D → Bool
  | .non, .non => true
  | .bl a, .bl b => a == b
  | .int a, .int b => a == b
  | .str a, .str b => a == b
  | .tup a, .tup b => D.beqs a b
  | .lst a, .lst b => D.beqs a b
  | .fn a, .fn b => a == b
  | _, _ => false
def D.beqs : List D → List D → Bool
  | [], [] => true
  | x :: r, y :: s => D.beq x y && D.beqs r s
  | _, _ => false
end
mutual
theorem D.beq_eq : ∀ {a b : D}, D.beq a b = true → a = b
  | .non, b, h => by cases b <;> simp_all [D.beq]
  | .bl _, b, h => by cases b <;> simp_all [D.beq]
  | .int _, b, h => by cases b <;> simp_all [D.beq]
  | .str _, b, h => by cases b <;> simp_all [D.beq]
  | .fn _, b, h => by cases b <;> simp_all [D.beq]
  | .tup xs, b, h => by
    cases b <;> simp only [D.beq, Bool.false_eq_true] at h
    rw [D.beqs_eq h]
  | .lst xs, b, h => by
    cases b <;> simp only [D.beq, Bool.false_eq_true] at h
    rw [D.beqs_eq h]
theorem D.beqs_eq : ∀ {a b : List D}, D.beqs a b = true → a = b
  | [], [], _ => rfl
  | [], _ :: _, h => by simp [D.beqs] at h
  | _ :: _, [], h => by simp [D.beqs] at h
  | x :: r, y :: s, h => by
    simp only [D.beqs, Bool.and_eq_true] at h
    rw [D.beq_eq h.1, D.beqs_eq h.2]
end
mutual
theorem D.beq_refl : ∀ a : D, D.beq a a = true
  | .non => rfl
  | .bl _ => by simp [D.beq]
  | .int _ => by simp [D.beq]
  | .str _ => by simp [D.beq]
  | .fn _ => by simp [D.beq]
  | .tup xs => by simp only [D.beq]; exact D.beqs_refl xs
  | .lst xs => by simp only [D.beq]; exact D.beqs_refl xs
theorem D.beqs_refl : ∀ a : List D, D.beqs a a = true
  | [] => rfl
  | x :: r => by simp only [D.beqs, D.beq_refl x, D.beqs_refl r, Bool.and_self]
end
instance : DecidableEq D := fun a b => if h : D.beq a b = true then isTrue (D.beq_eq h) else isFalse (fun e => h (e ▸ D.beq_refl a))

/-- what a name holds, what an expression gives: a datum; the mutable list with the number i; a list that was just made; the script -/
inductive AV where
  | d (x : D) | cell (i : Nat) | fr (xs : List D) | scr (ns : List Int)
  deriving Inhabited, DecidableEq
/-- what a cell holds -/
inductive MC where
  | l (xs : List D)
  /-- a dict whose keys are tuples of ints; one whose keys are ints -/
  | t (kvs : List (List Int × D)) | k (kvs : List (Int × D))
  deriving Inhabited, DecidableEq
abbrev Mem := List (Option MC)
abbrev Env := List (Option AV)

/-! ## the relation to the abstract heap -/
/-- the written part, the module's names -/
structure Gm where
  K : PySem.W.Frag
  mg : Str → Option Value

def KLst (K : PySem.W.Frag) (a : Addr) (xs : List V) : Prop :=
  ∃ (o : Obj) (its : Array Value) (n : Nat), K.lookup a = some o ∧ o.cls = .type "list" ∧ o.dict = none ∧ o.data = .seq its n ∧ its.size ≤ sizeLine ∧ Vals xs its.toList
def KTup (K : PySem.W.Frag) (a : Addr) (xs : List V) : Prop :=
  ∃ (o : Obj) (its : Array Value) (n : Nat), K.lookup a = some o ∧ o.cls = .type "tuple" ∧ o.data = .seq its n ∧ its.size ≤ sizeLine ∧ Vals xs its.toList
/-- whether module constants may be tuples (then no dict has tuples as keys) -/
def ktOn : Bool := false
/-- a tuple; a list that no more changes: W are the addresses that may be written -/
def LstAt (W : Addr → Prop) (H : Hp) (a : Addr) (xs : List V) : Prop := H a = some (.lst xs) ∧ ¬ W a
def TupAt (G : Gm) (W : Addr → Prop) (H : Hp) (a : Addr) (xs : List V) : Prop := (H a = some (.tup xs) ∧ ¬ W a) ∨ (ktOn = true ∧ KTup G.K a xs)
/-- a list that is read alone: the script -/
def ScrAt (G : Gm) (W : Addr → Prop) (H : Hp) (a : Addr) (xs : List V) : Prop := (∃ o, H a = some (.frz o (.lst xs)) ∧ ¬ W a) ∨ KLst G.K a xs
theorem LstAt.sq {K : PySem.W.Frag} {W : Addr → Prop} {H : Hp} {a : Addr} {xs : List V} (h : LstAt W H a xs) : SqL K H a xs := .of h.1
theorem TupAt.sq {G : Gm} {W : Addr → Prop} {H : Hp} {a : Addr} {xs : List V} (h : TupAt G W H a xs) : SqT G.K H a xs := h.elim (fun h => .of h.1) fun h => .inr h.2
theorem ScrAt.sq {G : Gm} {W : Addr → Prop} {H : Hp} {a : Addr} {xs : List V} (h : ScrAt G W H a xs) : SqL G.K H a xs := by
  rcases h with ⟨o, h, _⟩ | h
  · exact .inl (.inr ⟨o, h⟩)
  · exact .inr h

mutual
inductive RD (G : Gm) (W : Addr → Prop) (H : Hp) : D → V → Prop
  | non : RD G W H .non .non
  | bl (b : Bool) : RD G W H (.bl b) (.bl b)
  | int (i : Int) : RD G W H (.int i) (.int i)
  | str (x : Str) : RD G W H (.str x) (.str x)
  | tup {a : Addr} {vs : List V} {xs : List D} : TupAt G W H a vs → RDs G W H xs vs → RD G W H (.tup xs) (.ref a)
  | lst {a : Addr} {vs : List V} {xs : List D} : LstAt W H a vs → RDs G W H xs vs → RD G W H (.lst xs) (.ref a)
  | fn {x : Str} {f : Addr} : G.mg x = some (.ref f) → RD G W H (.fn x) (.ref f)
inductive RDs (G : Gm) (W : Addr → Prop) (H : Hp) : List D → List V → Prop
  | nil : RDs G W H [] []
  | cons {x : D} {xs : List D} {v : V} {vs : List V} : RD G W H x v → RDs G W H xs vs → RDs G W H (x :: xs) (v :: vs)
end

/-- from one heap to a later one -/
structure Ext (W : Addr → Prop) (H : Hp) (W' : Addr → Prop) (H' : Hp) : Prop where
  keep : ∀ a o, H a = some o → ¬ W a → H' a = some o ∧ ¬ W' a
  live : ∀ a, H a ≠ none → H' a ≠ none
theorem Ext.refl (W : Addr → Prop) (H : Hp) : Ext W H W H := ⟨fun _ _ h n => ⟨h, n⟩, fun _ h => h⟩
theorem Ext.trans {W W1 W2 : Addr → Prop} {H H1 H2 : Hp} (a : Ext W H W1 H1) (b : Ext W1 H1 W2 H2) : Ext W H W2 H2 :=
  ⟨fun c o h n => let ⟨h1, n1⟩ := a.keep c o h n; b.keep c o h1 n1, fun c h => b.live c (a.live c h)⟩
theorem Ext.fresh {W W' : Addr → Prop} {H H' : Hp} (a : Ext W H W' H') {p : Addr} (h : H' p = none) : H p = none := by
  cases e : H p with
  | none => rfl
  | some o => exact absurd h (a.live p (by rw [e]; simp))
section
variable {G : Gm} {W W' : Addr → Prop} {H H' : Hp}
theorem LstAt.ext {a : Addr} {xs : List V} (h : LstAt W H a xs) (x : Ext W H W' H') : LstAt W' H' a xs := x.keep a _ h.1 h.2
theorem TupAt.ext {a : Addr} {xs : List V} (h : TupAt G W H a xs) (x : Ext W H W' H') : TupAt G W' H' a xs := h.imp (fun h => x.keep a _ h.1 h.2) id
theorem ScrAt.ext {a : Addr} {xs : List V} (h : ScrAt G W H a xs) (x : Ext W H W' H') : ScrAt G W' H' a xs := h.imp (fun ⟨o, h, n⟩ => ⟨o, x.keep a _ h n⟩) id
mutual
theorem RD.ext (x : Ext W H W' H') : ∀ {d : D} {v : V}, RD G W H d v → RD G W' H' d v
  | .non, _, h => by cases h; exact .non
  | .bl _, _, h => by cases h; exact .bl _
  | .int _, _, h => by cases h; exact .int _
  | .str _, _, h => by cases h; exact .str _
  | .tup _, _, h => by cases h with | tup h1 h2 => exact .tup (h1.ext x) (RDs.ext x h2)
  | .lst _, _, h => by cases h with | lst h1 h2 => exact .lst (h1.ext x) (RDs.ext x h2)
  | .fn _, _, h => by cases h with | fn h1 => exact .fn h1
theorem RDs.ext (x : Ext W H W' H') : ∀ {d : List D} {v : List V}, RDs G W H d v → RDs G W' H' d v
  | [], _, h => by cases h; exact .nil
  | _ :: _, _, h => by cases h with | cons h1 h2 => exact .cons (RD.ext x h1) (RDs.ext x h2)
end
/-- fewer addresses may be written -/
theorem Ext.less (h : ∀ a, W' a → W a) : Ext W H W' H := ⟨fun _ _ e n => ⟨e, fun z => n (h _ z)⟩, fun _ h => h⟩
theorem RD.less {d : D} {v : V} (r : RD G W H d v) (h : ∀ a, W' a → W a) : RD G W' H d v := r.ext (Ext.less h)
theorem RDs.less {d : List D} {v : List V} (r : RDs G W H d v) (h : ∀ a, W' a → W a) : RDs G W' H d v := r.ext (Ext.less h)
theorem RDs.length : ∀ {d : List D} {v : List V}, RDs G W H d v → d.length = v.length
  | [], _, h => by cases h; rfl
  | _ :: _, _, h => by cases h with | cons h1 h2 => simp [RDs.length h2]
theorem RDs.get : ∀ {d : List D} {v : List V} {i : Nat} {x : D}, RDs G W H d v → d[i]? = some x → ∃ y, v[i]? = some y ∧ RD G W H x y
  | [], _, _, _, h, e => by simp at e
  | _ :: _, _, 0, _, h, e => by cases h with | cons h1 h2 => simp at e; subst e; exact ⟨_, rfl, h1⟩
  | _ :: _, _, i + 1, x, h, e => by
    cases h with
    | cons h1 h2 =>
      obtain ⟨y, e1, r⟩ := RDs.get (i := i) h2 (by simpa using e)
      exact ⟨y, by simpa using e1, r⟩
theorem RDs.append : ∀ {d e : List D} {v w : List V}, RDs G W H d v → RDs G W H e w → RDs G W H (d ++ e) (v ++ w)
  | [], _, _, _, h, k => by cases h; exact k
  | _ :: _, _, _, _, h, k => by cases h with | cons h1 h2 => exact .cons h1 (RDs.append h2 k)
theorem RDs.take : ∀ {d : List D} {v : List V} (n : Nat), RDs G W H d v → RDs G W H (d.take n) (v.take n)
  | _, _, 0, _ => by simp; exact .nil
  | [], _, n + 1, h => by cases h; simp; exact .nil
  | _ :: _, _, n + 1, h => by cases h with | cons h1 h2 => simp; exact .cons h1 (RDs.take n h2)
theorem RDs.drop : ∀ {d : List D} {v : List V} (n : Nat), RDs G W H d v → RDs G W H (d.drop n) (v.drop n)
  | _, _, 0, h => by simpa using h
  | [], _, n + 1, h => by cases h; simp; exact .nil
  | _ :: _, _, n + 1, h => by cases h with | cons h1 h2 => simp; exact RDs.drop n h2
theorem RDs.set {x : D} {y : V} (r : RD G W H x y) : ∀ {d : List D} {v : List V} (n : Nat), RDs G W H d v → RDs G W H (d.set n x) (v.set n y)
  | [], _, _, h => by cases h; exact .nil
  | _ :: _, _, 0, h => by cases h with | cons h1 h2 => exact .cons r h2
  | _ :: _, _, n + 1, h => by cases h with | cons h1 h2 => exact .cons h1 (RDs.set r n h2)
theorem RDs.dropLast : ∀ {d : List D} {v : List V}, RDs G W H d v → RDs G W H d.dropLast v.dropLast := fun {d v} h => by
  rw [List.dropLast_eq_take, List.dropLast_eq_take, h.length]
  exact h.take _
theorem RDs.eraseIdx : ∀ {d : List D} {v : List V} (n : Nat), RDs G W H d v → RDs G W H (d.eraseIdx n) (v.eraseIdx n)
  | [], _, _, h => by cases h; exact .nil
  | _ :: _, _, 0, h => by cases h with | cons h1 h2 => exact h2
  | _ :: _, _, n + 1, h => by cases h with | cons h1 h2 => exact .cons h1 (RDs.eraseIdx n h2)
theorem RDs.replicate (k : Nat) {x : D} {y : V} (r : RD G W H x y) : RDs G W H (List.replicate k x) (List.replicate k y) := by
  induction k with
  | zero => exact .nil
  | succ k ih => exact .cons r ih
theorem RDs.flat_rep {d : List D} {v : List V} (h : RDs G W H d v) : ∀ k : Nat, RDs G W H (List.replicate k d).flatten (List.replicate k v).flatten
  | 0 => .nil
  | k + 1 => by rw [List.replicate_succ, List.replicate_succ, List.flatten_cons, List.flatten_cons]; exact h.append (RDs.flat_rep h k)
theorem RDs.reverse : ∀ {d : List D} {v : List V}, RDs G W H d v → RDs G W H d.reverse v.reverse
  | [], _, h => by cases h; exact .nil
  | _ :: _, _, h => by
    cases h with
    | cons h1 h2 => rw [List.reverse_cons, List.reverse_cons]; exact (RDs.reverse h2).append (.cons h1 .nil)
theorem RDs.ints : ∀ {ns : List Int} {v : List V}, RDs G W H (ns.map D.int) v → v = ns.map V.int
  | [], _, h => by cases h; rfl
  | n :: r, _, h => by
    cases h with
    | cons h1 h2 => cases h1; rw [RDs.ints h2]; rfl
theorem RDs.of_ints : ∀ (ns : List Int), RDs G W H (ns.map D.int) (ns.map V.int)
  | [] => .nil
  | n :: r => .cons (.int n) (RDs.of_ints r)
theorem RDs.bls : ∀ {ns : List Bool} {v : List V}, RDs G W H (ns.map D.bl) v → v = ns.map V.bl
  | [], _, h => by cases h; rfl
  | n :: r, _, h => by
    cases h with
    | cons h1 h2 => cases h1; rw [RDs.bls h2]; rfl
mutual
theorem RD.dp : ∀ {d : D} {v : V}, RD G W H d v → d.flat = true → Dp G.K H v d.py
  | .non, _, h, _ => by cases h; exact .non
  | .bl _, _, h, _ => by cases h; exact .bl _
  | .int _, _, h, _ => by cases h; exact .int _
  | .str _, _, h, _ => by cases h; exact .str _
  | .tup _, _, h, f => by cases h with | tup h1 h2 => exact .tup h1.sq (RDs.dp h2 (by simpa [D.flat] using f))
  | .lst _, _, h, f => by cases h with | lst h1 h2 => exact .lst h1.sq (RDs.dp h2 (by simpa [D.flat] using f))
  | .fn _, _, _, f => by simp [D.flat] at f
theorem RDs.dp : ∀ {d : List D} {v : List V}, RDs G W H d v → D.flats d = true → DpAll G.K H v (D.pys d)
  | [], _, h, _ => by cases h; exact .nil
  | _ :: _, _, h, f => by
    simp only [D.flats, Bool.and_eq_true] at f
    cases h with | cons h1 h2 => exact .cons (RD.dp h1 f.1) (RDs.dp h2 f.2)
end
end
end Mp

namespace Mp
open PySem L2

/-! ## outcomes -/
structure Exc where
  cls : Str
  fs : List (Str × D)
inductive Out (α : Type) where
  | ok (a : α) (M : Mem) | exc (e : Exc) (M : Mem) | bad
def Out.bind {α β : Type} : Out α → (α → Mem → Out β) → Out β
  | .ok a M, f => f a M
  | .exc e M, _ => .exc e M
  | .bad, _ => .bad
theorem Out.assoc {α β γ : Type} (r : Out α) (f : α → Mem → Out β) (g : β → Mem → Out γ) : (r.bind f).bind g = r.bind fun a M => (f a M).bind g := by cases r <;> rfl
theorem Out.bind_ok {α β : Type} (a : α) (M : Mem) (f : α → Mem → Out β) : (Out.ok a M).bind f = f a M := rfl

/-! ## the state -/
def Bar (W Z : Addr → Prop) : Addr → Prop := fun a => W a ∨ Z a
def add1 (W : Addr → Prop) (p : Addr) : Addr → Prop := fun a => W a ∨ a = p
def CellR (G : Gm) (B : Addr → Prop) (H : Hp) (p : Addr) : MC → Prop
  | .l xs => ∃ vs, H p = some (.lst vs) ∧ RDs G B H xs vs
  | .t kvs => ∃ us, H p = some (.dT (List.zip (kvs.map fun e => e.1.map Sum.inl) us)) ∧ RDs G B H (kvs.map (·.2)) us
  | .k kvs => ∃ us, H p = some (.dK (List.zip (kvs.map fun e => Sum.inl e.1) us)) ∧ RDs G B H (kvs.map (·.2)) us
structure Rel (G : Gm) (W Z : Addr → Prop) (φ : List Addr) (M : Mem) (H : Hp) : Prop where
  len : φ.length = M.length
  nd : φ.Nodup
  wt : ∀ a, W a → H a ≠ none
  zt : ∀ a, Z a → H a ≠ none
  sep : ∀ (i : Nat) p, φ[i]? = some p → H p ≠ none ∧ ¬ Z p
  cell : ∀ (i : Nat) p c, φ[i]? = some p → M[i]? = some (some c) → W p ∧ CellR G (Bar W Z) H p c
/-- a settled value -/
def SR (G : Gm) (B : Addr → Prop) (φ : List Addr) (H : Hp) : AV → V → Prop
  | .d x, v => RD G B H x v
  | .cell i, v => ∃ p, φ[i]? = some p ∧ v = .ref p
  | .fr xs, v => RD G B H (.lst xs) v
  | .scr ns, v => ∃ a, v = .ref a ∧ ScrAt G B H a (ns.map V.int)
/-- what an expression gives: H₀ is the heap ahead of it -/
def VR (G : Gm) (W Z : Addr → Prop) (φ : List Addr) (H₀ H : Hp) (M : Mem) : AV → V → Prop
  | .fr xs, v => ∃ p vs, v = .ref p ∧ H₀ p = none ∧ H p = some (.lst vs) ∧ ¬ Bar W Z p ∧ RDs G (add1 (Bar W Z) p) H xs vs ∧ Rel G W (add1 Z p) φ M H
  | x, v => SR G (Bar W Z) φ H x v
structure EnvR (G : Gm) (B : Addr → Prop) (φ : List Addr) (H : Hp) (env : Env) (σ : St) : Prop where
  len : env.length = σ.length
  at_ : ∀ (i : Nat) av, env[i]? = some (some av) → ∃ v, σ[i]? = some (some v) ∧ SR G B φ H av v
def XR (G : Gm) (B : Addr → Prop) (H : Hp) (e : Exc) (c : Value) (d : Option Addr) : Prop :=
  ∃ C, G.mg e.cls = some (.ref C) ∧ c = .ref C ∧ ((e.fs = [] ∧ d = none) ∨ ∃ dd fs, d = some dd ∧ H dd = some (.xd fs) ∧ ¬ B dd ∧ ∀ f x, e.fs.lookup f = some x → ∃ v, fs.lookup f = some v ∧ RD G B H x v)

section
variable {G : Gm} {W W' Z B B' : Addr → Prop} {φ : List Addr} {H H' H₀ : Hp} {M M' : Mem} {env : Env} {σ : St}
theorem Ext.bar (x : Ext W H W' H') : Ext (Bar W Z) H (Bar W' Z) H' :=
  ⟨fun a o h n => ⟨(x.keep a o h fun z => n (.inl z)).1, fun z => z.elim (x.keep a o h fun z => n (.inl z)).2 fun z => n (.inr z)⟩, x.live⟩
theorem Ext.bar1 {p : Addr} (x : Ext B H B' H') (hp : H p = none) : Ext B H (add1 B' p) H' :=
  ⟨fun a o h n => ⟨(x.keep a o h n).1, fun z => z.elim (x.keep a o h n).2 fun z => by subst z; rw [hp] at h; cases h⟩, x.live⟩
theorem SR.ext {av : AV} {v : V} (h : SR G B φ H av v) (x : Ext B H B' H') : SR G B' φ H' av v := by
  cases av with
  | d y => exact RD.ext x h
  | cell i => exact h
  | fr xs => exact RD.ext x h
  | scr ns => obtain ⟨a, e, s⟩ := h; exact ⟨a, e, s.ext x⟩
theorem SR.app {av : AV} {v : V} (h : SR G B φ H av v) (ψ : List Addr) : SR G B (φ ++ ψ) H av v := by
  cases av with
  | d y => exact h
  | cell i => obtain ⟨p, e, r⟩ := h; exact ⟨p, by rw [List.getElem?_append_left]; exact e; exact (List.getElem?_eq_some_iff.mp e).1, r⟩
  | fr xs => exact h
  | scr ns => exact h
theorem EnvR.ext (h : EnvR G B φ H env σ) (x : Ext B H B' H') : EnvR G B' φ H' env σ :=
  ⟨h.len, fun i av e => let ⟨v, e1, r⟩ := h.at_ i av e; ⟨v, e1, r.ext x⟩⟩
theorem EnvR.app (h : EnvR G B φ H env σ) (ψ : List Addr) : EnvR G B (φ ++ ψ) H env σ :=
  ⟨h.len, fun i av e => let ⟨v, e1, r⟩ := h.at_ i av e; ⟨v, e1, r.app ψ⟩⟩
theorem VR.sr {av : AV} {v : V} (h : VR G W Z φ H₀ H M av v) : SR G (Bar W Z) φ H av v := by
  cases av with
  | d y => exact h
  | cell i => exact h
  | scr ns => exact h
  | fr xs =>
    obtain ⟨p, vs, e, _, h1, h2, h3, _⟩ := h
    subst e
    exact .lst ⟨h1, h2⟩ (h3.less fun a z => .inl z)
/-- of a value that is no new list -/
theorem VR.of {av : AV} {v : V} (h : SR G (Bar W Z) φ H av v) (n : ∀ xs, av ≠ .fr xs) : VR G W Z φ H₀ H M av v := by
  cases av with
  | fr xs => exact absurd rfl (n xs)
  | _ => exact h
theorem VR.back {H1 : Hp} {W1 : Addr → Prop} {av : AV} {v : V} (h : VR G W' Z φ H1 H' M av v) (x : Ext W H W1 H1) : VR G W' Z φ H H' M av v := by
  cases av with
  | fr xs => obtain ⟨p, vs, e, h0, r⟩ := h; exact ⟨p, vs, e, x.fresh h0, r⟩
  | _ => exact h
theorem CellR.ext {p : Addr} {c : MC} (h : CellR G B H p c) (x : Ext B H B' H') (e : H' p = H p) : CellR G B' H' p c := by
  cases c with
  | l xs => obtain ⟨vs, h1, r⟩ := h; exact ⟨vs, by rw [e]; exact h1, r.ext x⟩
  | t kvs => obtain ⟨vs, h1, r⟩ := h; exact ⟨vs, by rw [e]; exact h1, r.ext x⟩
  | k kvs => obtain ⟨vs, h1, r⟩ := h; exact ⟨vs, by rw [e]; exact h1, r.ext x⟩
theorem Rel.fresh (R : Rel G W Z φ M H) {p : Addr} (h : H p = none) : ¬ W p := fun z => R.wt p z h
/-- a new object -/
theorem Ext.laid (R : Rel G W Z φ M H) {p : Addr} {o : HO} (h : H p = none) : Ext W H W (upd H p o) :=
  ⟨fun a u e n => ⟨by rw [upd_ne (ne_of_none e h)]; exact e, n⟩, fun a e => by
    by_cases q : a = p
    · subst q; exact absurd h e
    · rw [upd_ne q]; exact e⟩
theorem Rel.laid (R : Rel G W Z φ M H) {p : Addr} {o : HO} (h : H p = none) : Rel G W (add1 Z p) φ M (upd H p o) := by
  have x := Ext.laid R (o := o) h
  refine ⟨R.len, R.nd, fun a w => x.live a (R.wt a w), fun a z => z.elim (fun z => x.live a (R.zt a z)) fun z => by subst z; rw [upd_same]; simp, fun i q e => ⟨x.live q (R.sep i q e).1, fun z => z.elim (R.sep i q e).2 fun z => by subst z; exact (R.sep i _ e).1 h⟩, fun i q c e1 e2 => ?_⟩
  obtain ⟨w, r⟩ := R.cell i q c e1 e2
  have hq : q ≠ p := fun z => by subst z; exact R.wt _ w h
  refine ⟨w, r.ext ?_ (upd_ne hq)⟩
  refine ⟨fun a u e n => ?_, x.live⟩
  have ha : a ≠ p := ne_of_none e h
  refine ⟨by rw [upd_ne ha]; exact e, fun z => ?_⟩
  rcases z with z | z | z
  · exact n (.inl z)
  · exact n (.inr z)
  · exact ha z
theorem Rel.unbar {p : Addr} (R : Rel G W (add1 Z p) φ M H) : Rel G W Z φ M H := by
  refine ⟨R.len, R.nd, R.wt, fun a z => R.zt a (.inl z), fun i q e => ⟨(R.sep i q e).1, fun z => (R.sep i q e).2 (.inl z)⟩, fun i q c e1 e2 => ?_⟩
  obtain ⟨w, r⟩ := R.cell i q c e1 e2
  exact ⟨w, r.ext (Ext.less fun a z => z.imp id .inl) rfl⟩
theorem Rel.laid0 (R : Rel G W Z φ M H) {p : Addr} {o : HO} (h : H p = none) : Rel G W Z φ M (upd H p o) := (R.laid h).unbar
end

/-! ## readings -/
section
variable {α β : Type}
/-- what an outcome asks: R tells of the result -/
def RunG (R : (Addr → Prop) → Hp → Mem → α → β → Prop) (G : Gm) (Z : Addr → Prop) (φ : List Addr) (W : Addr → Prop) (H : Hp) (r : Out α) (Q : β → Hp → Prop) (E : XK) : Prop :=
  match r with
  | .ok av M' => ∀ W' H' v, Rel G W' Z φ M' H' → Ext W H W' H' → R W' H' M' av v → Q v H'
  | .exc e M' => ∀ W' H' c d, Rel G W' Z φ M' H' → Ext W H W' H' → XR G (Bar W' Z) H' e c d → E c d H'
  | .bad => False
end
abbrev Run (G : Gm) (Z : Addr → Prop) (φ : List Addr) (W : Addr → Prop) (H : Hp) (r : Out AV) (Q : VK) (E : XK) : Prop :=
  RunG (fun W' H' M' av v => VR G W' Z φ H H' M' av v) G Z φ W H r Q E
def SRs (G : Gm) (B : Addr → Prop) (φ : List Addr) (H : Hp) : List AV → List V → Prop
  | [], [] => True
  | x :: xs, v :: vs => SR G B φ H x v ∧ SRs G B φ H xs vs
  | _, _ => False
theorem SRs.ext {G : Gm} {B B' : Addr → Prop} {φ : List Addr} {H H' : Hp} (x : Ext B H B' H') : ∀ {xs : List AV} {vs : List V}, SRs G B φ H xs vs → SRs G B' φ H' xs vs
  | [], [], _ => trivial
  | [], _ :: _, h => h.elim
  | _ :: _, [], h => h.elim
  | _ :: _, _ :: _, ⟨h1, h2⟩ => ⟨h1.ext x, SRs.ext x h2⟩
abbrev RunL (G : Gm) (Z : Addr → Prop) (φ : List Addr) (W : Addr → Prop) (H : Hp) (r : Out (List AV)) (Q : List V → Hp → Prop) (E : XK) : Prop :=
  RunG (fun W' H' _ avs vs => SRs G (Bar W' Z) φ H' avs vs) G Z φ W H r Q E
abbrev RunB (G : Gm) (Z : Addr → Prop) (φ : List Addr) (W : Addr → Prop) (H : Hp) (r : Out Bool) (Q : Bool → Hp → Prop) (E : XK) : Prop :=
  RunG (fun _ _ _ a b => a = b) G Z φ W H r Q E

abbrev SE := Env → Mem → Out AV
abbrev SL := Env → Mem → Out (List AV)
abbrev SB := Env → Mem → Out Bool
def rdE (G : Gm) (f : SE) (E : WX) : TE := fun σ H Q => ∃ W Z φ env M, Rel G W Z φ M H ∧ EnvR G (Bar W Z) φ H env σ ∧ Run G Z φ W H (f env M) Q fun c d H' => E c d σ H'
def rdL (G : Gm) (f : SL) (E : WX) : TA := fun σ H Q => ∃ W Z φ env M, Rel G W Z φ M H ∧ EnvR G (Bar W Z) φ H env σ ∧ RunL G Z φ W H (f env M) Q fun c d H' => E c d σ H'
def rdB (G : Gm) (f : SB) (E : WX) : TT := fun σ H Q => ∃ W Z φ env M, Rel G W Z φ M H ∧ EnvR G (Bar W Z) φ H env σ ∧ RunB G Z φ W H (f env M) Q fun c d H' => E c d σ H'

abbrev gm (X : Cx) : Gm := ⟨X.K, X.mg⟩
/-- the expression is modelled by f -/
abbrev GE (X : Cx) (E : WX) (e : Expr) (f : SE) : Prop := PE X e (rdE (gm X) f E)
abbrev GL (X : Cx) (E : WX) (es : List Expr) (f : SL) : Prop := PA X es (rdL (gm X) f E)
abbrev GB (X : Cx) (E : WX) (e : Expr) (f : SB) : Prop := PT X e (rdB (gm X) f E)
abbrev GBw (X : Cx) (E : WX) (e : Expr) (f : SB) : Prop := PW X e (rdB (gm X) f E)

section
variable {X : Cx} {e : Expr} {es : List Expr}
theorem PE.imp {t t' : TE} (h : PE X e t) (k : ∀ σ H Q, t' σ H Q → t σ H Q) : PE X e t' := ⟨fun pins s σ H Q I q => h.run pins s σ H Q I (k σ H Q q)⟩
theorem PT.imp {t t' : TT} (h : PT X e t) (k : ∀ σ H Q, t' σ H Q → t σ H Q) : PT X e t' := ⟨fun pins s σ H Q I q => h.run pins s σ H Q I (k σ H Q q)⟩
theorem PW.imp {t t' : TT} (h : PW X e t) (k : ∀ σ H Q, t' σ H Q → t σ H Q) : PW X e t' := ⟨fun wh pins s σ H Q I q => h.run wh pins s σ H Q I (k σ H Q q)⟩
theorem PA.imp {t t' : TA} (h : PA X es t) (k : ∀ σ H Q, t' σ H Q → t σ H Q) : PA X es t' := ⟨fun pos pins s σ H Q I q => h.run pos pins s σ H Q I (k σ H Q q)⟩
end

section
variable {G : Gm} {W W1 Z : Addr → Prop} {φ : List Addr} {H H1 : Hp} {M : Mem} {env : Env} {σ : St} {Q : VK} {E : XK}
theorem Run.later {r : Out AV} (x : Ext W H W1 H1) (h : Run G Z φ W H r Q E) : Run G Z φ W1 H1 r Q E := by
  cases r with
  | ok a M' => exact fun W' H' v R y z => h W' H' v R (x.trans y) (z.back x)
  | exc e M' => exact fun W' H' c d R y z => h W' H' c d R (x.trans y) z
  | bad => exact h
theorem RunL.later {r : Out (List AV)} {Q : List V → Hp → Prop} (x : Ext W H W1 H1) (h : RunL G Z φ W H r Q E) : RunL G Z φ W1 H1 r Q E := by
  cases r with
  | ok a M' => exact fun W' H' v R y z => h W' H' v R (x.trans y) z
  | exc e M' => exact fun W' H' c d R y z => h W' H' c d R (x.trans y) z
  | bad => exact h
theorem RunB.later {r : Out Bool} {Q : Bool → Hp → Prop} (x : Ext W H W1 H1) (h : RunB G Z φ W H r Q E) : RunB G Z φ W1 H1 r Q E := by
  cases r with
  | ok a M' => exact fun W' H' v R y z => h W' H' v R (x.trans y) z
  | exc e M' => exact fun W' H' c d R y z => h W' H' c d R (x.trans y) z
  | bad => exact h
theorem RunG.imp {α β : Type} {R : (Addr → Prop) → Hp → Mem → α → β → Prop} {r : Out α} {Q Q' : β → Hp → Prop} (h : RunG R G Z φ W H r Q E) (k : ∀ v H, Q v H → Q' v H) : RunG R G Z φ W H r Q' E := by
  cases r with
  | ok a M' => exact fun W' H' v R y z => k _ _ (h W' H' v R y z)
  | exc e M' => exact h
  | bad => exact h
/-- an outcome bound: the first part, then the rest from where it ends -/
theorem RunG.bind {α β γ δ : Type} {R : (Addr → Prop) → Hp → Mem → α → β → Prop} {R2 : (Addr → Prop) → Hp → (Addr → Prop) → Hp → Mem → γ → δ → Prop} {r : Out α} {k : α → Mem → Out γ} {Q : δ → Hp → Prop}
    (h : RunG (R2 W H) G Z φ W H (r.bind k) Q E)
    (later : ∀ W1 H1 a M1, Ext W H W1 H1 → RunG (R2 W H) G Z φ W H (k a M1) Q E → RunG (R2 W1 H1) G Z φ W1 H1 (k a M1) Q E) :
    RunG R G Z φ W H r (fun v H1 => ∃ W1 M1 a, r = .ok a M1 ∧ Rel G W1 Z φ M1 H1 ∧ Ext W H W1 H1 ∧ R W1 H1 M1 a v ∧ RunG (R2 W1 H1) G Z φ W1 H1 (k a M1) Q E) E := by
  cases r with
  | ok a M' => exact fun W' H' v R1 y z => ⟨W', M', a, rfl, R1, y, z, later _ _ _ _ y h⟩
  | exc e M' => exact h
  | bad => exact h
theorem Run.bind {α β : Type} {R : (Addr → Prop) → Hp → Mem → α → β → Prop} {r : Out α} {k : α → Mem → Out AV} (h : Run G Z φ W H (r.bind k) Q E) :
    RunG R G Z φ W H r (fun v H1 => ∃ W1 M1 a, r = .ok a M1 ∧ Rel G W1 Z φ M1 H1 ∧ Ext W H W1 H1 ∧ R W1 H1 M1 a v ∧ Run G Z φ W1 H1 (k a M1) Q E) E :=
  RunG.bind (R2 := fun W H W' H' M' av v => VR G W' Z φ H H' M' av v) h fun _ _ _ _ x q => Run.later x q
theorem RunL.bind {α β : Type} {R : (Addr → Prop) → Hp → Mem → α → β → Prop} {r : Out α} {k : α → Mem → Out (List AV)} {Q : List V → Hp → Prop} (h : RunL G Z φ W H (r.bind k) Q E) :
    RunG R G Z φ W H r (fun v H1 => ∃ W1 M1 a, r = .ok a M1 ∧ Rel G W1 Z φ M1 H1 ∧ Ext W H W1 H1 ∧ R W1 H1 M1 a v ∧ RunL G Z φ W1 H1 (k a M1) Q E) E :=
  RunG.bind (R2 := fun _ _ W' H' _ avs vs => SRs G (Bar W' Z) φ H' avs vs) h fun _ _ _ _ x q => RunL.later x q
theorem RunB.bind {α β : Type} {R : (Addr → Prop) → Hp → Mem → α → β → Prop} {r : Out α} {k : α → Mem → Out Bool} {Q : Bool → Hp → Prop} (h : RunB G Z φ W H (r.bind k) Q E) :
    RunG R G Z φ W H r (fun v H1 => ∃ W1 M1 a, r = .ok a M1 ∧ Rel G W1 Z φ M1 H1 ∧ Ext W H W1 H1 ∧ R W1 H1 M1 a v ∧ RunB G Z φ W1 H1 (k a M1) Q E) E :=
  RunG.bind (R2 := fun _ _ _ _ _ a b => a = b) h fun _ _ _ _ x q => RunB.later x q
/-- the end: a value at hand -/
theorem Run.ok {av : AV} {v : V} (R : Rel G W Z φ M H) (h : Run G Z φ W H (.ok av M) Q E) (r : SR G (Bar W Z) φ H av v) (n : ∀ xs, av ≠ .fr xs) : Q v H := h W H v R (Ext.refl _ _) (.of r n)
/-- the end: a new list -/
theorem Run.new {xs : List D} {vs : List V} (R : Rel G W Z φ M H) (h : Run G Z φ W H (.ok (.fr xs) M) Q E) (r : RDs G (Bar W Z) H xs vs) : ∀ p, H p = none → Q (.ref p) (upd H p (.lst vs)) := fun p hp => by
  have x := Ext.laid R (o := .lst vs) hp
  refine h W _ _ (R.laid0 hp) x ⟨p, vs, rfl, hp, upd_same, ?_, r.ext ?_, R.laid hp⟩
  · exact fun z => z.elim (fun z => R.wt p z hp) fun z => R.zt p z hp
  · exact Ext.bar1 x.bar hp
end
end Mp

namespace Mp
open PySem L2

/-! ## the functions -/
def AV.settle : AV → AV
  | .fr xs => .d (.lst xs)
  | x => x
/-- the items of a list, of a tuple -/
def lstOf (M : Mem) : AV → Option (List D)
  | .d (.lst xs) => some xs
  | .fr xs => some xs
  | .cell i => match M[i]? with | some (some (.l xs)) => some xs | _ => none
  | .scr ns => some (ns.map D.int)
  | _ => none
def tupOf : AV → Option (List D)
  | .d (.tup xs) => some xs
  | _ => none
/-- as a datum that is looked at alone -/
def look (M : Mem) : AV → Option D
  | .d x => some x
  | .scr _ => none
  | a => (lstOf M a).map D.lst
/-- as a datum that is kept: a cell is closed -/
def keepD : AV → Mem → Option (D × Mem)
  | .d x, M => some (x, M)
  | .fr xs, M => some (.lst xs, M)
  | .cell i, M => match M[i]? with | some (some (.l xs)) => some (.lst xs, M.set i none) | _ => none
  | .scr _, _ => none
def keepDs : List AV → Mem → Option (List D × Mem)
  | [], M => some ([], M)
  | a :: r, M => match keepD a M with
    | none => none
    | some (x, M1) => match keepDs r M1 with
      | none => none
      | some (xs, M2) => some (x :: xs, M2)

def sVar (i : Nat) : SE := fun env M => match env[i]? with
  | some (some av) => .ok av.settle M
  | _ => .bad
def sCon (d : D) : SE := fun _ M => .ok (.d d) M
def sTwo (op : AV → AV → Mem → Out AV) (f g : SE) : SE := fun env M => (f env M).bind fun x M1 => (g env M1).bind fun y M2 => op x y M2
def sOne (op : AV → Mem → Out AV) (f : SE) : SE := fun env M => (f env M).bind fun x M1 => op x M1
/-- the size of a product is in order -/
def mulOk (i j : Int) : Bool := decide (i.natAbs < 2 ^ 64) || decide (j.natAbs < 2 ^ 64) || decide (i.natAbs.log2 + j.natAbs.log2 < 100000000)
def divOk (j : Int) : Bool := decide (j.natAbs < 2 ^ 30) || decide (j.natAbs.log2 < 9000)
def guard {α : Type} (b : Bool) (r : Out α) : Out α := if b = true then r else .bad

def binop : Operator → AV → AV → Mem → Out AV
  | .Add, .d (.int i), .d (.int j), M => .ok (.d (.int (i + j))) M
  | .Add, .d (.str x), .d (.str y), M => guard (decide (x.length + y.length ≤ sizeLine)) (.ok (.d (.str (x ++ y))) M)
  | .Add, .d (.tup xs), .d (.tup ys), M => guard (decide (xs.length + ys.length ≤ sizeLine)) (.ok (.d (.tup (xs ++ ys))) M)
  | .Add, .d (.lst xs), .d (.lst ys), M => guard (decide (xs.length + ys.length ≤ sizeLine)) (.ok (.fr (xs ++ ys)) M)
  | .Sub, .d (.int i), .d (.int j), M => .ok (.d (.int (i - j))) M
  | .Mult, .d (.int i), .d (.int j), M => guard (mulOk i j) (.ok (.d (.int (i * j))) M)
  | .Mult, .d (.lst xs), .d (.int j), M => guard (decide (-(2 ^ 63) ≤ j ∧ j < 2 ^ 63 ∧ xs.length * j.toNat ≤ sizeLine)) (.ok (.fr (List.replicate j.toNat xs).flatten) M)
  | .Mult, .d (.tup xs), .d (.int j), M => guard (decide (xs ≠ [] ∧ -1000 ≤ j ∧ j ≤ 1000 ∧ xs.length ≤ 1000)) (.ok (.d (.tup (List.replicate j.toNat xs).flatten)) M)
  | .FloorDiv, .d (.int i), .d (.int j), M => if 0 < j then guard (divOk j) (.ok (.d (.int (i / j))) M) else guard (decide (j ≠ 0) && divOk j) (.ok (.d (.int (i.fdiv j))) M)
  | .Mod, .d (.int i), .d (.int j), M => if 0 < j then .ok (.d (.int (i % j))) M else guard (decide (j ≠ 0)) (.ok (.d (.int (i.fmod j))) M)
  | .Pow, .d (.int i), .d (.int j), M => guard (decide (0 ≤ j ∧ j ≤ 1000000 ∧ i.natAbs < 2 ^ 64)) (.ok (.d (.int (i ^ j.toNat))) M)
  | _, _, _, _ => .bad
/-- lists are brought to their items first -/
def opnd (M : Mem) (a : AV) : AV := match lstOf M a, a with
  | some xs, .cell _ => .d (.lst xs)
  | some xs, .fr _ => .d (.lst xs)
  | _, a => a
def sBin (op : Operator) (f g : SE) : SE := sTwo (fun x y M => binop op (opnd M x) (opnd M y) M) f g
def negOp : AV → Mem → Out AV
  | .d (.int i), M => .ok (.d (.int (-i))) M
  | _, _ => .bad
def sNeg (f : SE) : SE := sOne negOp f

/-! ## how settled values are met -/
section
variable {G : Gm} {W W' Z B : Addr → Prop} {φ : List Addr} {H H' H₀ : Hp} {M : Mem} {env : Env} {σ : St} {Q : VK} {E : XK}
theorem SR.settle {av : AV} {v : V} (h : SR G B φ H av v) : SR G B φ H av.settle v := by cases av <;> exact h
theorem settle_ne {av : AV} : ∀ xs, av.settle ≠ .fr xs := by cases av <;> intro xs h <;> cases h
/-- a list is met, however it is held -/
theorem Rel.lst (R : Rel G W Z φ M H) {av : AV} {v : V} {xs : List D} (r : SR G (Bar W Z) φ H av v) (h : lstOf M av = some xs) : ∃ p vs, v = .ref p ∧ SqL G.K H p vs ∧ RDs G (Bar W Z) H xs vs ∧ ((∀ ns, av ≠ .scr ns) → H p = some (.lst vs)) := by
  unfold lstOf at h
  split at h
  · cases h; cases r with | lst h1 h2 => exact ⟨_, _, rfl, h1.sq, h2, fun _ => h1.1⟩
  · cases h; cases r with | lst h1 h2 => exact ⟨_, _, rfl, h1.sq, h2, fun _ => h1.1⟩
  · obtain ⟨p, e, rfl⟩ := r
    split at h
    · rename_i e2
      cases h
      obtain ⟨_, vs, h1, h2⟩ := R.cell _ _ _ e e2
      exact ⟨p, vs, rfl, .of h1, h2, fun _ => h1⟩
    · cases h
  · cases h; obtain ⟨a, rfl, s⟩ := r; exact ⟨a, _, rfl, s.sq, RDs.of_ints _, fun n => absurd rfl (n _)⟩
  · cases h
theorem tup_met {av : AV} {v : V} {xs : List D} (r : SR G B φ H av v) (h : tupOf av = some xs) : ∃ p vs, v = .ref p ∧ TupAt G B H p vs ∧ RDs G B H xs vs := by
  unfold tupOf at h
  split at h
  · cases h; cases r with | tup h1 h2 => exact ⟨_, _, rfl, h1, h2⟩
  · cases h
/-- a list brought to its items: enough to read it -/
inductive Opd (G : Gm) (B : Addr → Prop) (H : Hp) : AV → V → Prop where
  | d {x : D} {v : V} : (∀ xs, x ≠ .lst xs) → RD G B H x v → Opd G B H (.d x) v
  | l {xs : List D} {p : Addr} {vs : List V} : H p = some (.lst vs) → RDs G B H xs vs → Opd G B H (.d (.lst xs)) (.ref p)
  | no {a : AV} {v : V} : (∀ x, a ≠ .d x) → Opd G B H a v
theorem Rel.opd (R : Rel G W Z φ M H) {av : AV} {v : V} (r : SR G (Bar W Z) φ H av v) : Opd G (Bar W Z) H (opnd M av) v := by
  cases av with
  | d x =>
    have e : opnd M (.d x) = .d x := by unfold opnd; split <;> simp_all
    rw [e]
    cases x with
    | lst xs => cases r with | lst h1 h2 => exact .l h1.1 h2
    | _ => exact .d (fun _ h => by cases h) r
  | scr ns => exact .no fun x h => by unfold opnd at h; split at h <;> simp_all
  | fr xs =>
    have e : opnd M (.fr xs) = .d (.lst xs) := rfl
    rw [e]
    cases r with | lst h1 h2 => exact .l h1.1 h2
  | cell i =>
    cases e : lstOf M (.cell i) with
    | none => exact .no fun x h => by unfold opnd at h; rw [e] at h; cases h
    | some xs =>
      have e2 : opnd M (.cell i) = .d (.lst xs) := by unfold opnd; rw [e]
      rw [e2]
      obtain ⟨p, vs, rfl, _, h2, h3⟩ := R.lst r e
      exact .l (h3 fun _ h => by cases h) h2
end

/-! ## a tuple times 1, 0 or less -/
section
open PySem.Spec PyProof.Rows
set_option maxHeartbeats 4000000
theorem tuple_mul1 (l : Addr) (items : Array Value) (n : Nat) (dd : Option Addr) (sl : Array (Option Value)) (u : Tok) :
    Meets (Builtin.«tuple.__mul__» ⟨[.ref l, .int 1 u], []⟩) (fun _ R s => s.heap.get? l = some { cls := .type "tuple", dict := dd, data := .seq items n, slots := sl } ∧ R (.ok (.ret (Value.ref l))) s) :=
  .of_wp fun prog w A R s h => by
    obtain ⟨hp, g, d, tk, os⟩ := s
    obtain ⟨hl, h⟩ := h
    have f1 := AutoSeq1.idx_int
    have c1 : (items.isEmpty || (1 : Int) == 1) = true := by rw [show ((1 : Int) == 1) = true from rfl, Bool.or_true]
    wp_walk using wpAny_loadPart' hl
    exact ⟨_, rfl, h⟩
theorem tuple_mul0 (l : Addr) (items : Array Value) (n : Nat) (dd : Option Addr) (sl : Array (Option Value)) (x : Int) (u : Tok) (c0 : (decide (x < -(2 ^ 63)) || decide (x ≥ 2 ^ 63)) = false) (c1 : (items.isEmpty || x == 1) = false) (c2 : (decide (x ≤ 0) || items.isEmpty) = true) :
    Meets (Builtin.«tuple.__mul__» ⟨[.ref l, .int x u], []⟩) (fun _ R s => s.heap.get? l = some { cls := .type "tuple", dict := dd, data := .seq items n, slots := sl } ∧
      R (.ok (.ret (Value.ref s.heap.objs.size))) { s with heap := s.heap.push { cls := Value.type "tuple", data := Data.seq #[] }, toks := s.toks }) :=
  .of_wp fun prog w A R s h => by
    obtain ⟨hp, g, d, tk, os⟩ := s
    obtain ⟨hl, h⟩ := h
    have f1 := AutoSeq1.idx_int
    wp_walk using wpAny_loadPart' hl
    repeat (first
      | (refine wpAny_ite_false (decide_eq_false (by rw [c0]; exact Bool.false_ne_true)) ?_; wp_walk using wpAny_loadPart' hl)
      | (refine wpAny_ite_false (decide_eq_false (by rw [c1]; exact Bool.false_ne_true)) ?_; wp_walk using wpAny_loadPart' hl)
      | (refine wpAny_ite_true (decide_eq_true c2) ?_; wp_walk using wpAny_loadPart' hl))
    exact ⟨_, rfl, h⟩
/-- a tuple once, or not at all -/
def rRepU (K : PySem.W.Frag) : R2 := fun x y H Q => ∃ l k xs, x = .ref l ∧ y = .int k ∧ SqT K H l xs ∧ xs ≠ [] ∧ -1000 ≤ k ∧ k ≤ 1 ∧ (k = 1 → Q (.ref l) H) ∧ (k ≤ 0 → ∀ p, H p = none → Q (.ref p) (upd H p (.tup [])))
theorem op_repU {X : Cx} : OpR X (binaryOp .Mult) (rRepU X.K) := by
  intro pins s σ H x y v u Q I rx ry h
  obtain ⟨l, k, xs, rfl, rfl, hT, hne, h1, h2, q1, q0⟩ := h
  cases rx
  obtain ⟨t, rfl⟩ := ry
  obtain ⟨its, r, ⟨⟨cls, dd, data, sl⟩, ho, hc, n, hd⟩, hs⟩ := I.tuple hT
  simp only at hc hd
  subst hc hd
  have hle : its.length = xs.length := r.length.symm
  have hn : its ≠ [] := fun e => hne (by
    rw [e] at hle
    exact List.eq_nil_of_length_eq_zero hle.symm)
  have hi : its.toArray.isEmpty = false := by
    cases its with
    | nil => exact absurd rfl hn
    | cons a b => rfl
  by_cases hk : k = 1
  · subst hk
    refine wpAny_binaryOp_repeat_ref (T := "tuple") (U := "int") (by decide) ⟨_, ho, rfl⟩ (fun s' => typeIs_int s' 1 t) noFill_tuple_mul F.fills_int_mul F.slot_int_rmul repeat_tuple F.slot_int_index.lookup
      (call_meets F.slot_int_rmul (typeIs_int s 1 t) F.entry_int_rmul (F.args_int_rmul_2 _ _) (int_rmul_tuple 1 t l its.toArray n dd sl)
        ⟨ho, rfl, ⟨_, ho, rfl⟩, call_meets F.slot_tuple_mul ⟨_, ho, rfl⟩ F.entry_tuple_mul (F.args_tuple_mul_2 _ _) (tuple_mul1 l its.toArray n dd sl t) ⟨ho, ?_⟩⟩)
    exact ⟨.ref l, H, I, rfl, q1 rfl⟩
  · have c0 : (decide (k < -(2 ^ 63)) || decide (k ≥ 2 ^ 63)) = false := by
      rw [decide_eq_false (by omega), decide_eq_false (by omega)] <;> rfl
    have c1 : (its.toArray.isEmpty || k == 1) = false := by
      rw [hi, Bool.false_or]
      exact beq_eq_false_iff_ne.mpr (by omega)
    have c2 : (decide (k ≤ 0) || its.toArray.isEmpty) = true := by
      rw [hi, Bool.or_false]
      exact decide_eq_true (by omega)
    refine wpAny_binaryOp_repeat_ref (T := "tuple") (U := "int") (by decide) ⟨_, ho, rfl⟩ (fun s' => typeIs_int s' k t) noFill_tuple_mul F.fills_int_mul F.slot_int_rmul repeat_tuple F.slot_int_index.lookup
      (call_meets F.slot_int_rmul (typeIs_int s k t) F.entry_int_rmul (F.args_int_rmul_2 _ _) (int_rmul_tuple k t l its.toArray n dd sl)
        ⟨ho, rfl, ⟨_, ho, rfl⟩, call_meets F.slot_tuple_mul ⟨_, ho, rfl⟩ F.entry_tuple_mul (F.args_tuple_mul_2 _ _) (tuple_mul0 l its.toArray n dd sl k t c0 c1 c2) ⟨ho, ?_⟩⟩)
    refine ⟨.ref s.heap.objs.size, _, I.laid (t' := s.toks) (o := .tup []) (fun b ob q => Heap.get?_push_of_some _ q) (Nat.le_refl _) ?_, rfl, q0 (by omega) _ (I.hok.fresh (Nat.le_refl _))⟩
    exact ⟨by rw [sizeLine_eq]; exact Nat.zero_le _, [], .nil, IsTup.new _ _⟩
end
/-! ## the rules -/
section
variable {X : Cx} {E : WX} {a b c e : Expr} {f g : SE} {pos : Pos}
theorem ge_var {i : Nat} {x : Str} (hN : X.N[i]? = some x) (hv : Vis X.env.scope x) (hd : (x == ("__debug__" : Str)) = false) (hcd : (x == ("__classdict__" : Str)) = false) : GE X E (.Name x pos) (sVar i) :=
  PE.imp (pe_var hN hv hd hcd) fun σ H Q ⟨W, Z, φ, env, M, R, Er, h⟩ => by
    unfold sVar at h
    split at h
    · rename_i av e
      obtain ⟨v, e1, r⟩ := Er.at_ i av e
      exact ⟨v, e1, Run.ok R h r.settle settle_ne⟩
    · exact h.elim
theorem ge_con {d : D} {v : V} (h : PE X e (tC v)) (r : ∀ B H, RD (gm X) B H d v) : GE X E e (sCon d) :=
  PE.imp h fun σ H Q ⟨W, Z, φ, env, M, R, Er, h⟩ => Run.ok R h (r _ _) (fun _ h => by cases h)
/-- two operands, then an operation by values -/
theorem ge_two {op : AV → AV → Mem → Out AV} {r : R2} (hab : ∀ {ta tb : TE}, PE X a ta → PE X b tb → PE X e (tOp r ta tb)) (ha : GE X E a f) (hb : GE X E b g)
    (hr : ∀ W Z φ M H x y v u Q E, Rel (gm X) W Z φ M H → SR (gm X) (Bar W Z) φ H x v → SR (gm X) (Bar W Z) φ H y u → Run (gm X) Z φ W H (op x y M) Q E → r v u H Q) : GE X E e (sTwo op f g) :=
  PE.imp (hab ha hb) fun σ H Q ⟨W, Z, φ, env, M, R, Er, h⟩ =>
    ⟨W, Z, φ, env, M, R, Er, (Run.bind h).imp fun v H1 ⟨W1, M1, x, _, R1, x1, r1, h2⟩ =>
      ⟨W1, Z, φ, env, M1, R1, Er.ext x1.bar, (Run.bind h2).imp fun u H2 ⟨W2, M2, y, _, R2, x2, r2, h4⟩ => hr W2 Z φ M2 H2 x y v u Q _ R2 (r1.sr.ext x2.bar) r2.sr h4⟩⟩
theorem ge_one {op : AV → Mem → Out AV} {r : V → Hp → VK → Prop} (hab : ∀ {ta : TE}, PE X a ta → PE X e (tUn r ta)) (ha : GE X E a f)
    (hr : ∀ W Z φ M H x v Q E, Rel (gm X) W Z φ M H → SR (gm X) (Bar W Z) φ H x v → Run (gm X) Z φ W H (op x M) Q E → r v H Q) : GE X E e (sOne op f) :=
  PE.imp (hab ha) fun σ H Q ⟨W, Z, φ, env, M, R, Er, h⟩ =>
    ⟨W, Z, φ, env, M, R, Er, (Run.bind h).imp fun v H1 ⟨W1, M1, x, _, R1, x1, r1, h2⟩ => hr W1 Z φ M1 H1 x v Q _ R1 r1.sr h2⟩
theorem guard_run {α : Type} {b : Bool} {r : Out α} : ∀ {P : Out α → Prop}, P (guard b r) → ¬ P .bad → b = true ∧ P r := fun {P} h n => by
  unfold guard at h
  split at h
  · exact ⟨by assumption, h⟩
  · exact absurd h n
theorem mulOk_ok {i j : Int} (h : mulOk i j = true) : IntMulOk i j := by
  unfold mulOk at h
  simp only [Bool.or_eq_true, decide_eq_true_eq] at h
  rcases h with (h | h) | h
  · exact .of_left (intBits_le_64 (by omega) (by omega))
  · exact .of_right (intBits_le_64 (by omega) (by omega))
  · intro z
    rw [Bool.and_eq_true] at z
    have z2 := z.2
    unfold Builtin.Int.intTooBig at z2
    have z3 := of_decide_eq_true z2
    have e : bitsLine = 134217728 := by decide
    have b : ∀ k : Int, Builtin.Int.intBits k ≤ k.natAbs.log2 + 1 := fun k => by
      unfold Builtin.Int.intBits
      split <;> omega
    have h1 := b i
    have h2 := b j
    rw [e] at z3
    omega
theorem divOk_ok {i j : Int} (h : divOk j = true) : Builtin.divisionGoesByPylong i j = false := by
  unfold divOk at h
  simp only [Bool.or_eq_true, decide_eq_true_eq] at h
  rcases h with h | h
  · exact PyProof.noPylong_small (by omega)
  · exact PyProof.noPylong_of_log2 h
theorem op_mulA : OpR X (binaryOp .Mult) (rI IntMulOk fun i j => .int (i * j)) := opI fun _ _ _ _ _ _ _ hc q => PyProof.Rows.mul_int q hc
theorem op_fdivA : OpR X (binaryOp .FloorDiv) (rI (fun _ j => j ≠ 0 ∧ divOk j = true) fun i j => .int (i.fdiv j)) := opI fun _ _ _ _ _ _ _ hc q => PyProof.Rows.floordiv_int hc.1 q (.inl (divOk_ok hc.2))
def rBin (K : PySem.W.Frag) : Operator → R2
  | .Add => fun x y H Q => (((∃ i j, x = .int i ∧ y = .int j ∧ Q (.int (i + j)) H) ∨ (∃ i j, x = .str i ∧ y = .str j ∧ i.length + j.length ≤ sizeLine ∧ Q (.str (i ++ j)) H)) ∨ rCatA K x y H Q) ∨ rCat x y H Q
  | .Sub => rI0 fun i j => .int (i - j)
  | .Mult => fun x y H Q => ((rI IntMulOk (fun i j => .int (i * j)) x y H Q ∨ rRep x y H Q) ∨ rRepT K x y H Q) ∨ rRepU K x y H Q
  | .FloorDiv => rI (fun _ j => j ≠ 0 ∧ divOk j = true) fun i j => .int (i.fdiv j)
  | .Mod => rI (fun _ j => j ≠ 0) fun i j => .int (i.fmod j)
  | .Pow => rI CPow fun i j => .int (i ^ j.toNat)
  | _ => fun _ _ _ _ => False
theorem rBin_ok : ∀ op : Operator, OpR X (binaryOp op) (rBin X.K op)
  | .Add => ((OpR.or (op_add (X := X)) op_add_str).or op_catA).or op_cat
  | .Sub => op_sub
  | .Mult => (((op_mulA (X := X)).or op_rep).or op_repT).or op_repU
  | .FloorDiv => op_fdivA
  | .Mod => op_modN
  | .Pow => op_pow
  | .MatMult => fun _ _ _ _ _ _ _ _ _ _ _ _ h => h.elim
  | .Div => fun _ _ _ _ _ _ _ _ _ _ _ _ h => h.elim
  | .LShift => fun _ _ _ _ _ _ _ _ _ _ _ _ h => h.elim
  | .RShift => fun _ _ _ _ _ _ _ _ _ _ _ _ h => h.elim
  | .BitOr => fun _ _ _ _ _ _ _ _ _ _ _ _ h => h.elim
  | .BitXor => fun _ _ _ _ _ _ _ _ _ _ _ _ h => h.elim
  | .BitAnd => fun _ _ _ _ _ _ _ _ _ _ _ _ h => h.elim

end
section
variable {G : Gm} {W Z B : Addr → Prop} {φ : List Addr} {H : Hp} {M : Mem} {Q : VK} {E : XK} {v u : V}
theorem Opd.int {i : Int} (o : Opd G B H (.d (.int i)) v) : v = .int i := by
  cases o with
  | d _ r => cases r; rfl
  | no n => exact absurd rfl (n _)
theorem Opd.bl {i : Bool} (o : Opd G B H (.d (.bl i)) v) : v = .bl i := by
  cases o with
  | d _ r => cases r; rfl
  | no n => exact absurd rfl (n _)
theorem Opd.non (o : Opd G B H (.d .non) v) : v = .non := by
  cases o with
  | d _ r => cases r; rfl
  | no n => exact absurd rfl (n _)
theorem Opd.str {i : Str} (o : Opd G B H (.d (.str i)) v) : v = .str i := by
  cases o with
  | d _ r => cases r; rfl
  | no n => exact absurd rfl (n _)
theorem Opd.tup {xs : List D} (o : Opd G B H (.d (.tup xs)) v) : ∃ p vs, v = .ref p ∧ TupAt G B H p vs ∧ RDs G B H xs vs := by
  cases o with
  | d _ r => cases r with | tup h1 h2 => exact ⟨_, _, rfl, h1, h2⟩
  | no n => exact absurd rfl (n _)
theorem Opd.lst {xs : List D} (o : Opd G B H (.d (.lst xs)) v) : ∃ p vs, v = .ref p ∧ H p = some (.lst vs) ∧ RDs G B H xs vs := by
  cases o with
  | d n r => exact absurd rfl (n xs)
  | l h r => exact ⟨_, _, rfl, h, r⟩
  | no n => exact absurd rfl (n _)
theorem not_bad {r : Out AV} (h : Run G Z φ W H r Q E) (e : r = .bad) : False := by rw [e] at h; exact h
/-- a new tuple -/
theorem Run.tup {xs : List D} {vs : List V} (R : Rel G W Z φ M H) (h : Run G Z φ W H (.ok (.d (.tup xs)) M) Q E) (r : RDs G (Bar W Z) H xs vs) : ∀ p, H p = none → Q (.ref p) (upd H p (.tup vs)) := fun p hp => by
  have x := Ext.laid R (o := .tup vs) hp
  refine h W _ _ (R.laid0 hp) x ?_
  show RD G (Bar W Z) _ _ _
  refine .tup (.inl ⟨upd_same, fun z => z.elim (fun z => R.wt p z hp) fun z => R.zt p z hp⟩) (r.ext x.bar)
theorem binop_run {op : Operator} {a b : AV} (R : Rel G W Z φ M H) (o1 : Opd G (Bar W Z) H a v) (o2 : Opd G (Bar W Z) H b u) (h : Run G Z φ W H (binop op a b M) Q E) : rBin G.K op v u H Q := by
  unfold binop at h
  split at h
  · rw [o1.int, o2.int]; exact .inl (.inl (.inl ⟨_, _, rfl, rfl, Run.ok R h (.int _) (fun _ z => by cases z)⟩))
  · obtain ⟨g, h⟩ := guard_run (P := fun r => Run G Z φ W H r Q E) h (fun z => z)
    rw [o1.str, o2.str]; exact .inl (.inl (.inr ⟨_, _, rfl, rfl, of_decide_eq_true g, Run.ok R h (.str _) (fun _ z => by cases z)⟩))
  · obtain ⟨g, h⟩ := guard_run (P := fun r => Run G Z φ W H r Q E) h (fun z => z)
    obtain ⟨p, vs, rfl, t1, r1⟩ := o1.tup
    obtain ⟨q, us, rfl, t2, r2⟩ := o2.tup
    refine .inl (.inr ⟨p, q, vs, us, rfl, rfl, t1.sq, t2.sq, by rw [← r1.length, ← r2.length]; exact of_decide_eq_true g, fun e => ?_, fun e e2 => ?_, fun _ _ => Run.tup R h (r1.append r2)⟩)
    · subst e
      cases r1
      exact Run.ok R h (.tup t2 r2) (fun _ z => by cases z)
    · subst e2
      cases r2
      rw [List.append_nil] at h
      exact Run.ok R h (.tup t1 r1) (fun _ z => by cases z)
  · obtain ⟨g, h⟩ := guard_run (P := fun r => Run G Z φ W H r Q E) h (fun z => z)
    obtain ⟨p, vs, rfl, t1, r1⟩ := o1.lst
    obtain ⟨q, us, rfl, t2, r2⟩ := o2.lst
    exact .inr ⟨p, q, vs, us, rfl, rfl, t1, t2, by rw [← r1.length, ← r2.length]; exact of_decide_eq_true g, Run.new R h (r1.append r2)⟩
  · rw [o1.int, o2.int]; exact ⟨_, _, rfl, rfl, Run.ok R h (.int _) (fun _ z => by cases z)⟩
  · obtain ⟨g, h⟩ := guard_run (P := fun r => Run G Z φ W H r Q E) h (fun z => z)
    rw [o1.int, o2.int]; exact .inl (.inl (.inl ⟨_, _, rfl, rfl, mulOk_ok g, Run.ok R h (.int _) (fun _ z => by cases z)⟩))
  · obtain ⟨g, h⟩ := guard_run (P := fun r => Run G Z φ W H r Q E) h (fun z => z)
    obtain ⟨p, vs, rfl, t1, r1⟩ := o1.lst
    have g := of_decide_eq_true g
    rw [o2.int]; exact .inl (.inl (.inr ⟨p, _, vs, rfl, rfl, t1, g.1, g.2.1, by rw [← r1.length]; exact g.2.2, Run.new R h (r1.flat_rep _)⟩))
  · rename_i xs j
    obtain ⟨g, h⟩ := guard_run (P := fun r => Run G Z φ W H r Q E) h (fun z => z)
    obtain ⟨p, vs, rfl, t1, r1⟩ := o1.tup
    have g := of_decide_eq_true g
    have ne : vs ≠ [] := fun z => by subst z; cases r1; exact g.1 rfl
    rw [o2.int]
    by_cases h2 : 2 ≤ j
    · exact .inl (.inr ⟨p, _, vs, rfl, rfl, t1.sq, ne, h2, g.2.2.1, by rw [← r1.length]; exact g.2.2.2, Run.tup R h (r1.flat_rep _)⟩)
    · refine .inr ⟨p, _, vs, rfl, rfl, t1.sq, ne, g.2.1, by omega, fun e => ?_, fun e => ?_⟩
      · subst e
        rw [show (List.replicate (1 : Int).toNat xs).flatten = xs by rw [show (1 : Int).toNat = 1 from rfl, List.replicate_one, List.flatten_singleton]] at h
        exact Run.ok R h (.tup t1 r1) (fun _ z => by cases z)
      · rw [show j.toNat = 0 by omega, List.replicate_zero, List.flatten_nil] at h
        exact Run.tup R h .nil
  · rw [o1.int, o2.int]
    split at h
    · rename_i hj
      obtain ⟨g, h⟩ := guard_run (P := fun r => Run G Z φ W H r Q E) h (fun z => z)
      refine ⟨_, _, rfl, rfl, ⟨by omega, g⟩, ?_⟩
      dsimp only
      rw [Int.fdiv_eq_ediv_of_nonneg _ (Int.le_of_lt hj)]
      exact Run.ok R h (.int _) (fun _ z => by cases z)
    · obtain ⟨g, h⟩ := guard_run (P := fun r => Run G Z φ W H r Q E) h (fun z => z)
      rw [Bool.and_eq_true] at g
      exact ⟨_, _, rfl, rfl, ⟨of_decide_eq_true g.1, g.2⟩, Run.ok R h (.int _) (fun _ z => by cases z)⟩
  · rw [o1.int, o2.int]
    split at h
    · rename_i hj
      refine ⟨_, _, rfl, rfl, by omega, ?_⟩
      dsimp only
      rw [Int.fmod_eq_emod_of_nonneg _ (Int.le_of_lt hj)]
      exact Run.ok R h (.int _) (fun _ z => by cases z)
    · obtain ⟨g, h⟩ := guard_run (P := fun r => Run G Z φ W H r Q E) h (fun z => z)
      exact ⟨_, _, rfl, rfl, of_decide_eq_true g, Run.ok R h (.int _) (fun _ z => by cases z)⟩
  · obtain ⟨g, h⟩ := guard_run (P := fun r => Run G Z φ W H r Q E) h (fun z => z)
    have g' := of_decide_eq_true g
    rw [o1.int, o2.int]; exact ⟨_, _, rfl, rfl, g', Run.ok R h (.int _) (fun _ z => by cases z)⟩
  · exact h.elim
end
section
variable {X : Cx} {E : WX} {a b c e : Expr} {f g : SE} {pos : Pos}
theorem ge_bin {op : Operator} (ha : GE X E a f) (hb : GE X E b g) : GE X E (.BinOp a op b pos) (sBin op f g) :=
  ge_two (fun ha hb => pe_op (rBin_ok op) ha hb) ha hb fun W Z φ M H x y v u Q E R r1 r2 h => binop_run R (R.opd r1) (R.opd r2) h
theorem ge_neg (ha : GE X E a f) : GE X E (.UnaryOp .USub a pos) (sNeg f) :=
  ge_one (fun ha => pe_un un_neg ha) ha fun W Z φ M H x v Q E R r1 h => by
    unfold negOp at h
    split at h
    · cases r1; exact ⟨_, rfl, Run.ok R h (.int _) (fun _ z => by cases z)⟩
    · exact h.elim
end
end Mp

namespace Mp
open PySem L2 PyProof.Rows

/-! ## comparisons -/
def D.eqv (a b : D) : Bool := PyData.eqv a.py b.py
def D.ok (a : D) : Bool := a.flat && SeqAt.shaped a.py
def AV.plain : AV → Bool
  | .scr _ => false
  | _ => true
def isNone : AV → Bool
  | .d .non => true
  | _ => false
def D.scal : D → Bool
  | .non => true | .bl _ => true | .int _ => true | .str _ => true | _ => false
def cmpv : CmpOp → Mem → AV → AV → Option Bool
  | .Eq, M, x, y => match look M x, look M y with
    | some a, some b => if a.ok && b.ok then some (D.eqv a b) else none
    | _, _ => none
  | .NotEq, M, x, y => match look M x, look M y with
    | some a, some b => if a.ok && b.ok then some (!D.eqv a b) else none
    | _, _ => none
  | .Lt, _, .d (.int i), .d (.int j) => some (decide (i < j))
  | .LtE, _, .d (.int i), .d (.int j) => some (decide (i ≤ j))
  | .Gt, _, .d (.int i), .d (.int j) => some (decide (j < i))
  | .GtE, _, .d (.int i), .d (.int j) => some (decide (j ≤ i))
  | .Is, _, x, .d .non => some (isNone x)
  | .IsNot, _, x, .d .non => some (!isNone x)
  | .Is, _, .d (.bl a), .d (.bl b) => some (decide (a = b))
  | .IsNot, _, .d (.bl a), .d (.bl b) => some (!decide (a = b))
  | .In, M, x, y => match look M x, lstOf M y, tupOf y with
    | some a, some ys, _ => if a.ok && (D.lst ys).ok && y.plain then some (ys.any fun z => D.eqv z a) else none
    | some a, none, some ys => if a.scal && ys.all D.scal then some (ys.any fun z => D.eqv z a) else if a.ok && (D.tup ys).ok && y.plain then some (ys.any fun z => D.eqv z a) else none
    | _, _, _ => none
  | .NotIn, M, x, y => match look M x, lstOf M y, tupOf y with
    | some a, some ys, _ => if a.ok && (D.lst ys).ok && y.plain then some (!ys.any fun z => D.eqv z a) else none
    | some a, none, some ys => if a.scal && ys.all D.scal then some (!ys.any fun z => D.eqv z a) else if a.ok && (D.tup ys).ok && y.plain then some (!ys.any fun z => D.eqv z a) else none
    | _, _, _ => none
  | _, _, _, _ => none
def cmpop (op : CmpOp) (x y : AV) (M : Mem) : Out AV := match cmpv op M x y with
  | some b => .ok (.d (.bl b)) M
  | none => .bad
def sCmp (op : CmpOp) (f g : SE) : SE := sTwo (cmpop op) f g

section
variable {G : Gm} {W Z B : Addr → Prop} {φ : List Addr} {H : Hp} {M : Mem} {Q : VK} {E : XK} {v u : V}
/-- a settled value looked at -/
theorem Rel.look (R : Rel G W Z φ M H) {av : AV} {d : D} (r : SR G (Bar W Z) φ H av v) (h : look M av = some d) (f : d.flat = true) : Dp G.K H v d.py := by
  cases av with
  | d x => cases h; exact RD.dp r f
  | scr ns => cases h
  | fr xs =>
    have e : d = .lst xs := by unfold Mp.look at h; simp [lstOf] at h; exact h.symm
    subst e
    exact RD.dp r f
  | cell i =>
    unfold Mp.look at h
    simp only [Option.map_eq_some_iff] at h
    obtain ⟨xs, e, rfl⟩ := h
    obtain ⟨p, vs, rfl, h1, h2, _⟩ := R.lst r e
    exact .lst h1 (RDs.dp h2 (by simpa [D.flat] using f))
theorem isNone_ok {av : AV} (r : SR G B φ H av v) : decide (v = .non) = isNone av := by
  cases av with
  | d x => cases r <;> simp [isNone]
  | scr ns => obtain ⟨a, rfl, _⟩ := r; simp [isNone]
  | fr xs => cases r; simp [isNone]
  | cell i => obtain ⟨p, _, rfl⟩ := r; simp [isNone]
theorem scal_flatV {d : D} (r : RD G B H d v) (s : d.scal = true) : flatV v = true := by cases r <;> simp_all [D.scal, flatV]
theorem scals_flatV : ∀ {d : List D} {v : List V}, RDs G B H d v → d.all D.scal = true → v.all flatV = true
  | [], _, h, _ => by cases h; rfl
  | _ :: _, _, h, s => by
    simp only [List.all_cons, Bool.and_eq_true] at s ⊢
    cases h with | cons h1 h2 => simp only [List.all_cons, Bool.and_eq_true]; exact ⟨scal_flatV h1 s.1, scals_flatV h2 s.2⟩
theorem scal_eqV {d e : D} (r : RD G B H d v) (q : RD G B H e u) (s : d.scal = true) (t : e.scal = true) : eqV v u = D.eqv d e := by
  cases r <;> simp only [D.scal, Bool.false_eq_true] at s <;> cases q <;> simp only [D.scal, Bool.false_eq_true] at t <;> rfl
theorem scals_inV {d : D} (q : RD G B H d u) (t : d.scal = true) : ∀ {ds : List D} {vs : List V}, RDs G B H ds vs → ds.all D.scal = true → inV u vs = ds.any fun z => D.eqv z d
  | [], _, h, _ => by cases h; rfl
  | _ :: _, _, h, s => by
    simp only [List.all_cons, Bool.and_eq_true] at s
    cases h with
    | cons h1 h2 =>
      have ih := scals_inV q t h2 s.2
      unfold inV at ih ⊢
      rw [List.any_cons, List.any_cons, ih, scal_eqV h1 q s.1 t]
end
def rInT (K : PySem.W.Frag) (neg : Bool) : R2 := fun x y H Q => ∃ d ds, Dp K H x d ∧ Dp K H y (.tuple ds) ∧ SeqAt.shaped d = true ∧ SeqAt.shaped (.tuple ds) = true ∧ Q (.bl (neg != ds.any fun z => PyData.eqv z d)) H
theorem op_inT {X : Cx} (hu : X.A.units + 65 < cLine) : OpR X (compareOp .In) (rInT X.K false) := by
  intro pins s σ H x y v u Q I rx ry h
  obtain ⟨d, ds, hd, he, sd, se, q⟩ := h
  obtain ⟨as, r1⟩ := Dp.reads I d x v hd rx
  obtain ⟨bs, r2⟩ := Dp.reads I (.tuple ds) y u he ry
  refine SeqAt.in_tuple_reads r2 r1 (SeqAt.canLay_of_shaped se) (SeqAt.canLay_of_shaped sd) (room_in_shaped sd hu) ⟨.bl _, H, I, rfl, ?_⟩
  simpa using q
theorem op_notInT {X : Cx} (hu : X.A.units + 65 < cLine) : OpR X (compareOp .NotIn) (rInT X.K true) := by
  intro pins s σ H x y v u Q I rx ry h
  obtain ⟨d, ds, hd, he, sd, se, q⟩ := h
  obtain ⟨as, r1⟩ := Dp.reads I d x v hd rx
  obtain ⟨bs, r2⟩ := Dp.reads I (.tuple ds) y u he ry
  refine SeqAt.notIn_tuple_reads r2 r1 (SeqAt.canLay_of_shaped se) (SeqAt.canLay_of_shaped sd) (room_in_shaped sd hu) ⟨.bl _, H, I, rfl, ?_⟩
  simpa using q
def rCmp (K : PySem.W.Frag) : CmpOp → R2
  | .Eq => rEqD K
  | .NotEq => rNeD K
  | .Lt => rI0 fun i j => .bl (decide (i < j))
  | .LtE => rI0 fun i j => .bl (decide (i ≤ j))
  | .Gt => rI0 fun i j => .bl (decide (j < i))
  | .GtE => rI0 fun i j => .bl (decide (j ≤ i))
  | .Is => fun x y H Q => (y = .non ∧ Q (.bl (decide (x = .non))) H) ∨ ∃ a b, x = .bl a ∧ y = .bl b ∧ Q (.bl (decide (a = b))) H
  | .IsNot => fun x y H Q => (y = .non ∧ Q (.bl (!decide (x = .non))) H) ∨ ∃ a b, x = .bl a ∧ y = .bl b ∧ Q (.bl (!decide (a = b))) H
  | .In => fun x y H Q => (rInD K x y H Q ∨ rIn K false x y H Q) ∨ rInT K false x y H Q
  | .NotIn => fun x y H Q => (rNotInD K x y H Q ∨ rIn K true x y H Q) ∨ rInT K true x y H Q
theorem rCmp_ok {X : Cx} (hu : X.A.units + 65 < cLine) : ∀ op : CmpOp, OpR X (compareOp op) (rCmp X.K op)
  | .Eq => op_eqD (by omega)
  | .NotEq => op_neD (by omega)
  | .Lt => op_lt
  | .LtE => op_le
  | .Gt => op_gt
  | .GtE => op_ge
  | .Is => op_isN.or op_is_bl
  | .IsNot => op_notN.or op_isnot_bl
  | .In => ((op_inD hu).or op_in_seq).or (op_inT hu)
  | .NotIn => ((op_notInD hu).or op_notIn_seq).or (op_notInT hu)
theorem pys_any (a : D) : ∀ ys : List D, ((D.pys ys).any fun z => PyData.eqv z a.py) = ys.any fun z => D.eqv z a
  | [] => rfl
  | y :: ys => by simp only [D.pys, List.any_cons, pys_any a ys]; rfl
theorem cmp_run {G : Gm} {W Z : Addr → Prop} {φ : List Addr} {H : Hp} {M : Mem} {Q : VK} {E : XK} {v u : V} {op : CmpOp} {x y : AV} (R : Rel G W Z φ M H) (r1 : SR G (Bar W Z) φ H x v) (r2 : SR G (Bar W Z) φ H y u)
    (h : Run G Z φ W H (cmpop op x y M) Q E) : rCmp G.K op v u H Q := by
  unfold cmpop at h
  split at h
  · rename_i b e
    have fin : ∀ c, c = b → Q (.bl c) H := fun c z => by subst z; exact Run.ok R h (.bl _) (fun _ z => by cases z)
    clear h
    unfold cmpv at e
    split at e
    · split at e
      · rename_i a c ha hc
        split at e
        · rename_i ok
          cases e
          simp only [D.ok, Bool.and_eq_true] at ok
          exact ⟨_, _, R.look r1 ha ok.1.1, R.look r2 hc ok.2.1, ok.1.2, ok.2.2, fin _ rfl⟩
        · cases e
      · cases e
    · split at e
      · rename_i a c ha hc
        split at e
        · rename_i ok
          cases e
          simp only [D.ok, Bool.and_eq_true] at ok
          exact ⟨_, _, R.look r1 ha ok.1.1, R.look r2 hc ok.2.1, ok.1.2, ok.2.2, fin _ rfl⟩
        · cases e
      · cases e
    · cases e; cases r1; cases r2; exact ⟨_, _, rfl, rfl, fin _ rfl⟩
    · cases e; cases r1; cases r2; exact ⟨_, _, rfl, rfl, fin _ rfl⟩
    · cases e; cases r1; cases r2; exact ⟨_, _, rfl, rfl, fin _ rfl⟩
    · cases e; cases r1; cases r2; exact ⟨_, _, rfl, rfl, fin _ rfl⟩
    · cases e; cases r2; exact .inl ⟨rfl, fin _ (isNone_ok r1)⟩
    · cases e; cases r2; exact .inl ⟨rfl, fin _ (by rw [isNone_ok r1])⟩
    · cases e; cases r1; cases r2; exact .inr ⟨_, _, rfl, rfl, fin _ rfl⟩
    · cases e; cases r1; cases r2; exact .inr ⟨_, _, rfl, rfl, fin _ rfl⟩
    · split at e
      · rename_i a ys ha hy
        split at e
        · rename_i ok
          cases e
          simp only [D.ok, Bool.and_eq_true] at ok
          obtain ⟨⟨⟨o1, o2⟩, o3, o4⟩, o5⟩ := ok
          obtain ⟨p, vs, rfl, h1, h2, h3⟩ := R.lst r2 hy
          refine .inl (.inl ⟨_, _, R.look r1 ha o1, .lst h1 (RDs.dp h2 (by simpa [D.flat] using o3)), o2, o4, fin _ ?_⟩)
          exact pys_any a ys
        · cases e
      · rename_i a ys ha hy ht
        split at e
        · rename_i ok
          cases e
          simp only [Bool.and_eq_true] at ok
          obtain ⟨p, vs, rfl, h1, h2⟩ := tup_met r2 ht
          have ra : RD G (Bar W Z) H a v := by
            cases x with
            | d z => cases ha; exact r1
            | _ => (simp [Mp.look] at ha; try (obtain ⟨_, _, z⟩ := ha; rw [← z] at ok; simp [D.scal] at ok))
          refine .inl (.inr ⟨p, vs, rfl, .inr h1.sq, scal_flatV ra ok.1, scals_flatV h2 ok.2, ?_⟩)
          rw [if_neg Bool.false_ne_true]
          exact fin _ (scals_inV ra ok.1 h2 ok.2)
        · split at e
          · rename_i ok
            cases e
            simp only [D.ok, Bool.and_eq_true] at ok
            obtain ⟨⟨⟨o1, o2⟩, o3, o4⟩, o5⟩ := ok
            obtain ⟨p, vs, rfl, h1, h2⟩ := tup_met r2 ht
            refine .inr ⟨_, _, R.look r1 ha o1, .tup h1.sq (RDs.dp h2 (by simpa [D.flat] using o3)), o2, o4, fin _ ?_⟩
            rw [pys_any a ys]
            simp
          · cases e
      · cases e
    · split at e
      · rename_i a ys ha hy
        split at e
        · rename_i ok
          cases e
          simp only [D.ok, Bool.and_eq_true] at ok
          obtain ⟨⟨⟨o1, o2⟩, o3, o4⟩, o5⟩ := ok
          obtain ⟨p, vs, rfl, h1, h2, h3⟩ := R.lst r2 hy
          refine .inl (.inl ⟨_, _, R.look r1 ha o1, .lst h1 (RDs.dp h2 (by simpa [D.flat] using o3)), o2, o4, fin _ ?_⟩)
          rw [pys_any a ys]
        · cases e
      · rename_i a ys ha hy ht
        split at e
        · rename_i ok
          cases e
          simp only [Bool.and_eq_true] at ok
          obtain ⟨p, vs, rfl, h1, h2⟩ := tup_met r2 ht
          have ra : RD G (Bar W Z) H a v := by
            cases x with
            | d z => cases ha; exact r1
            | _ => (simp [Mp.look] at ha; try (obtain ⟨_, _, z⟩ := ha; rw [← z] at ok; simp [D.scal] at ok))
          refine .inl (.inr ⟨p, vs, rfl, .inr h1.sq, scal_flatV ra ok.1, scals_flatV h2 ok.2, ?_⟩)
          rw [if_pos rfl]
          exact fin _ (by rw [scals_inV ra ok.1 h2 ok.2])
        · split at e
          · rename_i ok
            cases e
            simp only [D.ok, Bool.and_eq_true] at ok
            obtain ⟨⟨⟨o1, o2⟩, o3, o4⟩, o5⟩ := ok
            obtain ⟨p, vs, rfl, h1, h2⟩ := tup_met r2 ht
            refine .inr ⟨_, _, R.look r1 ha o1, .tup h1.sq (RDs.dp h2 (by simpa [D.flat] using o3)), o2, o4, fin _ ?_⟩
            rw [pys_any a ys]
            simp
          · cases e
      · cases e
    · cases e
  · exact h.elim
end Mp

namespace Mp
open PySem L2

/-! ## truth, tests -/
def truth (M : Mem) : AV → Option Bool
  | .d .non => some false
  | .d (.bl b) => some b
  | .d (.int i) => some (i != 0)
  | .d (.str x) => if x.length ≤ sizeLine then some ((x.length : Int) != 0) else none
  | .d (.tup xs) => some (!xs.isEmpty)
  | .d (.fn _) => none
  | a => (lstOf M a).map fun xs => !xs.isEmpty
def bool? : AV → Option Bool
  | .d (.bl b) => some b
  | _ => none
def sB (f : SE) : SB := fun env M => (f env M).bind fun x M1 => match truth M1 x with
  | some b => .ok b M1
  | none => .bad
def sAndB (f g : SB) : SB := fun env M => (f env M).bind fun b M1 => if b = true then g env M1 else .ok false M1
def sOrB (f g : SB) : SB := fun env M => (f env M).bind fun b M1 => if b = true then .ok true M1 else g env M1
def sNotB (f : SB) : SB := fun env M => (f env M).bind fun b M1 => .ok (!b) M1
def sIf (c : SB) (f g : SE) : SE := fun env M => (c env M).bind fun b M1 => if b = true then f env M1 else g env M1
/-- as values: the first one is a bool -/
def sAnd (f g : SE) : SE := fun env M => (f env M).bind fun x M1 => match bool? x with
  | some true => g env M1
  | some false => .ok (.d (.bl false)) M1
  | none => .bad
def sOr (f g : SE) : SE := fun env M => (f env M).bind fun x M1 => match bool? x with
  | some true => .ok (.d (.bl true)) M1
  | some false => g env M1
  | none => .bad
def sNot (f : SE) : SE := fun env M => (f env M).bind fun x M1 => match bool? x with
  | some b => .ok (.d (.bl (!b))) M1
  | none => .bad
/-- a op b op' c -/
def sChain (op op' : CmpOp) (f g k : SE) : SE := fun env M => (f env M).bind fun x M1 => (g env M1).bind fun y M2 => match cmpv op M2 x y with
  | some true => (k env M2).bind fun z M3 => cmpop op' y z M3
  | some false => .ok (.d (.bl false)) M2
  | none => .bad

section
variable {G : Gm} {W W1 Z B : Addr → Prop} {φ : List Addr} {H : Hp} {M : Mem} {Q : VK} {E : XK} {v u : V}
theorem truth_ok (R : Rel G W Z φ M H) {av : AV} {b : Bool} (r : SR G (Bar W Z) φ H av v) (h : truth M av = some b) : TruV G.K v H b := by
  have lst : ∀ xs, lstOf M av = some xs → b = !xs.isEmpty → TruV G.K v H b := fun xs e z => by
    obtain ⟨p, vs, rfl, h1, h2, _⟩ := R.lst r e
    subst z
    refine .inl ⟨vs, h1, ?_⟩
    cases h2 <;> rfl
  unfold truth at h
  split at h
  · cases h; cases r; rfl
  · cases h; cases r; rfl
  · cases h; cases r; rfl
  · split at h
    · cases h; cases r; exact ⟨by assumption, rfl⟩
    · cases h
  · cases h
    cases r with
    | tup h1 h2 =>
      refine .inr (.inl ⟨_, h1.sq, ?_⟩)
      cases h2 <;> rfl
  · cases h
  · obtain ⟨xs, e, z⟩ := Option.map_eq_some_iff.mp h
    exact lst xs e z.symm
theorem bool_ok {av : AV} {b : Bool} (r : SR G B φ H av v) (h : bool? av = some b) : v = .bl b := by
  unfold bool? at h
  split at h
  · cases h; cases r; rfl
  · cases h
theorem RunB.ok {b : Bool} {Q : Bool → Hp → Prop} (R : Rel G W Z φ M H) (h : RunB G Z φ W H (.ok b M) Q E) : Q b H := h W H b R (Ext.refl _ _) rfl
end

section
variable {X : Cx} {E : WX} {a b c e : Expr} {f g k : SE} {p q : SB} {pos : Pos} {rest : List Expr}
theorem gb_truth (ha : GE X E a f) (he : ∀ whole, isTrue a X.env whole = (do let v ← whole; standAt a.pos; holding [v] (truthy v))) : GB X E a (sB f) :=
  PT.imp (pt_truth ha he) fun σ H Q ⟨W, Z, φ, env, M, R, Er, h⟩ => ⟨W, Z, φ, env, M, R, Er, (RunB.bind h).imp fun v H1 ⟨W1, M1, x, _, R1, x1, r1, h2⟩ => by
    cases e : truth M1 x with
    | none => rw [e] at h2; exact h2.elim
    | some b => rw [e] at h2; exact ⟨b, truth_ok R1 r1.sr e, RunB.ok R1 h2⟩⟩
/-- a comparison's value as a test: by two operands -/
theorem ge_cmp {op : CmpOp} (hu : X.A.units + 65 < cLine) (hm : behindInMarks op b = false) (ha : GE X E a f) (hb : GE X E b g) : GE X E (.Compare a [op] [b] pos) (sCmp op f g) :=
  ge_two (fun ha hb => pe_cmpR (rCmp_ok hu op) ha hb hm) ha hb fun W Z φ M H x y v u Q E R r1 r2 h => cmp_run R r1 r2 h
theorem cmp_bool {op : CmpOp} {x y : AV} {M M' : Mem} {av : AV} (h : cmpop op x y M = .ok av M') : M' = M ∧ ∃ b, av = .d (.bl b) := by
  unfold cmpop at h
  split at h
  · cases h; exact ⟨rfl, _, rfl⟩
  · cases h
theorem gb_cmp {op : CmpOp} (hu : X.A.units + 65 < cLine) (hm : behindInMarks op b = false) (ha : GE X E a f) (hb : GE X E b g) : GB X E (.Compare a [op] [b] pos) (sB (sCmp op f g)) :=
  PT.imp (pt_cmpR (rCmp_ok hu op) ha hb hm) fun σ H Q ⟨W, Z, φ, env, M, R, Er, h⟩ => by
    have h' : RunB (gm X) Z φ W H ((f env M).bind fun x M1 => (g env M1).bind fun y M2 => (cmpop op x y M2).bind fun z M3 => match truth M3 z with | some b => .ok b M3 | none => .bad) Q (fun c d H' => E c d σ H') := by
      have e : (sB (sCmp op f g) env M) = ((f env M).bind fun x M1 => (g env M1).bind fun y M2 => (cmpop op x y M2).bind fun z M3 => match truth M3 z with | some b => .ok b M3 | none => .bad) := by
        unfold sB sCmp sTwo
        rw [Out.assoc]
        congr 1
        funext x M1
        rw [Out.assoc]
      rw [← e]; exact h
    exact ⟨W, Z, φ, env, M, R, Er, (RunB.bind h').imp fun v H1 ⟨W1, M1, x, _, R1, x1, r1, h2⟩ =>
      ⟨W1, Z, φ, env, M1, R1, Er.ext x1.bar, (RunB.bind h2).imp fun u H2 ⟨W2, M2, y, _, R2, x2, r2, h4⟩ => by
        refine cmp_run (E := fun _ _ _ => False) (W := W2) (Z := Z) (φ := φ) (M := M2) (x := x) (y := y) R2 (r1.sr.ext x2.bar) r2.sr ?_
        cases e : cmpop op x y M2 with
        | bad => rw [e] at h4; exact h4
        | exc _ _ => unfold cmpop at e; split at e <;> cases e
        | ok av M3 =>
          obtain ⟨rfl, t, rfl⟩ := cmp_bool e
          rw [e] at h4
          intro W' H' v' R' x' r'
          cases r'
          exact ⟨t, rfl, h4 W' H' t R' x' rfl⟩⟩⟩
theorem gb_and (ha : GB X E a p) (hb : GBw X E (.BoolOp .And (b :: rest) pos) q) : GBw X E (.BoolOp .And (a :: b :: rest) pos) (sAndB p q) :=
  PW.imp (pw_and ha hb) fun σ H Q ⟨W, Z, φ, env, M, R, Er, h⟩ => ⟨W, Z, φ, env, M, R, Er, (RunB.bind h).imp fun v H1 ⟨W1, M1, x, _, R1, x1, r1, h2⟩ => by
    subst r1
    cases x with
    | true => exact ⟨W1, Z, φ, env, M1, R1, Er.ext x1.bar, h2⟩
    | false => exact RunB.ok R1 h2⟩
theorem gb_or (ha : GB X E a p) (hb : GBw X E (.BoolOp .Or (b :: rest) pos) q) : GBw X E (.BoolOp .Or (a :: b :: rest) pos) (sOrB p q) :=
  PW.imp (pw_or ha hb) fun σ H Q ⟨W, Z, φ, env, M, R, Er, h⟩ => ⟨W, Z, φ, env, M, R, Er, (RunB.bind h).imp fun v H1 ⟨W1, M1, x, _, R1, x1, r1, h2⟩ => by
    subst r1
    cases x with
    | false => exact ⟨W1, Z, φ, env, M1, R1, Er.ext x1.bar, h2⟩
    | true => exact RunB.ok R1 h2⟩
theorem gb_and1 (ha : GB X E a p) : GBw X E (.BoolOp .And [a] pos) p := pw_and1 ha
theorem gb_or1 (ha : GB X E a p) : GBw X E (.BoolOp .Or [a] pos) p := pw_or1 ha
theorem gb_not (ha : GB X E a p) : GB X E (.UnaryOp .Not a pos) (sNotB p) :=
  PT.imp (pt_not ha) fun σ H Q ⟨W, Z, φ, env, M, R, Er, h⟩ => ⟨W, Z, φ, env, M, R, Er, (RunB.bind h).imp fun v H1 ⟨W1, M1, x, _, R1, x1, r1, h2⟩ => by
    subst r1; exact RunB.ok R1 h2⟩
theorem ge_and (ha : GE X E a f) (hb : GE X E (.BoolOp .And (b :: rest) pos) g) : GE X E (.BoolOp .And (a :: b :: rest) pos) (sAnd f g) :=
  PE.imp (pe_and ha hb) fun σ H Q ⟨W, Z, φ, env, M, R, Er, h⟩ => ⟨W, Z, φ, env, M, R, Er, (Run.bind h).imp fun v H1 ⟨W1, M1, x, _, R1, x1, r1, h2⟩ => by
    cases e : bool? x with
    | none => rw [e] at h2; exact h2.elim
    | some t =>
      refine ⟨t, bool_ok r1.sr e, ?_⟩
      rw [e] at h2
      cases t with
      | true => exact ⟨W1, Z, φ, env, M1, R1, Er.ext x1.bar, h2⟩
      | false => exact Run.ok R1 h2 (.bl _) (fun _ z => by cases z)⟩
theorem ge_or (ha : GE X E a f) (hb : GE X E (.BoolOp .Or (b :: rest) pos) g) : GE X E (.BoolOp .Or (a :: b :: rest) pos) (sOr f g) :=
  PE.imp (pe_or ha hb) fun σ H Q ⟨W, Z, φ, env, M, R, Er, h⟩ => ⟨W, Z, φ, env, M, R, Er, (Run.bind h).imp fun v H1 ⟨W1, M1, x, _, R1, x1, r1, h2⟩ => by
    cases e : bool? x with
    | none => rw [e] at h2; exact h2.elim
    | some t =>
      refine ⟨t, bool_ok r1.sr e, ?_⟩
      rw [e] at h2
      cases t with
      | false => exact ⟨W1, Z, φ, env, M1, R1, Er.ext x1.bar, h2⟩
      | true => exact Run.ok R1 h2 (.bl _) (fun _ z => by cases z)⟩
theorem ge_one1 {op : BoolOp} (ha : GE X E a f) : GE X E (.BoolOp op [a] pos) f := pe_one ha
theorem ge_not (ha : GE X E a f) : GE X E (.UnaryOp .Not a pos) (sNot f) :=
  PE.imp (pe_not ha) fun σ H Q ⟨W, Z, φ, env, M, R, Er, h⟩ => ⟨W, Z, φ, env, M, R, Er, (Run.bind h).imp fun v H1 ⟨W1, M1, x, _, R1, x1, r1, h2⟩ => by
    cases e : bool? x with
    | none => rw [e] at h2; exact h2.elim
    | some t =>
      refine ⟨t, bool_ok r1.sr e, ?_⟩
      rw [e] at h2
      exact Run.ok R1 h2 (.bl _) (fun _ z => by cases z)⟩
theorem ge_if (hc : GB X E c p) (ha : GE X E a f) (hb : GE X E b g) : GE X E (.IfExp c a b pos) (sIf p f g) :=
  PE.imp (pe_ifExp hc ha hb) fun σ H Q ⟨W, Z, φ, env, M, R, Er, h⟩ => ⟨W, Z, φ, env, M, R, Er, (Run.bind h).imp fun v H1 ⟨W1, M1, x, _, R1, x1, r1, h2⟩ => by
    subst r1
    cases x with
    | true => exact ⟨W1, Z, φ, env, M1, R1, Er.ext x1.bar, h2⟩
    | false => exact ⟨W1, Z, φ, env, M1, R1, Er.ext x1.bar, h2⟩⟩
end
end Mp

namespace Mp
open PySem L2

section
variable {X : Cx} {E : WX} {a b c e : Expr} {f g k : SE} {p q : SB} {pos : Pos} {rest : List Expr}
/-- the chain's reading, whatever comes behind it -/
theorem chain_run {G : Gm} {op op' : CmpOp} {W Z : Addr → Prop} {φ : List Addr} {H : Hp} {M : Mem} {env : Env} {σ : St} {Q : VK} {E : WX} (R : Rel G W Z φ M H) (Er : EnvR G (Bar W Z) φ H env σ)
    (h : Run G Z φ W H (sChain op op' f g k env M) Q (fun c d H' => E c d σ H')) : tChain (rCmp G.K op) (rCmp G.K op') (rdE G f E) (rdE G g E) (rdE G k E) σ H Q :=
  ⟨W, Z, φ, env, M, R, Er, (Run.bind h).imp fun v H1 ⟨W1, M1, x, _, R1, x1, r1, h2⟩ =>
    ⟨W1, Z, φ, env, M1, R1, Er.ext x1.bar, (Run.bind h2).imp fun u H2 ⟨W2, M2, y, _, R2, x2, r2, h4⟩ => by
      refine cmp_run (E := fun _ _ _ => False) (W := W2) (Z := Z) (φ := φ) (M := M2) (x := x) (y := y) R2 (r1.sr.ext x2.bar) r2.sr ?_
      unfold cmpop
      cases e : cmpv op M2 x y with
      | none => rw [e] at h4; exact h4
      | some t =>
        rw [e] at h4
        intro W' H' v' R' x' r'
        cases r'
        refine ⟨t, rfl, ?_⟩
        have Er' := (Er.ext x1.bar).ext (x2.trans x').bar
        have r2' := r2.sr.ext x'.bar
        cases t with
        | true =>
          rw [if_pos rfl]
          refine ⟨W', Z, φ, env, M2, R', Er', (Run.bind (Run.later x' h4)).imp fun w H3 ⟨W3, M3, z, _, R3, x3, r3, h5⟩ => ?_⟩
          exact cmp_run R3 (r2'.ext x3.bar) r3.sr h5
        | false =>
          rw [if_neg Bool.false_ne_true]
          exact Run.ok R' (Run.later x' h4) (.bl _) (fun _ z => by cases z)⟩⟩
theorem ge_chain {op op' : CmpOp} (hu : X.A.units + 65 < cLine) (hm : lastMarks [op, op'] [b, c] = false) (ha : GE X E a f) (hb : GE X E b g) (hc : GE X E c k) : GE X E (.Compare a [op, op'] [b, c] pos) (sChain op op' f g k) :=
  PE.imp (pe_chain (rCmp_ok hu op) (rCmp_ok hu op') ha hb hc hm) fun σ H Q ⟨W, Z, φ, env, M, R, Er, h⟩ => chain_run R Er h
theorem chain_bool {op op' : CmpOp} {env : Env} {M M' : Mem} {av : AV} (h : sChain op op' f g k env M = .ok av M') : ∃ b, av = .d (.bl b) := by
  unfold sChain at h
  cases e1 : f env M with
  | bad => rw [e1] at h; cases h
  | exc _ _ => rw [e1] at h; cases h
  | ok x M1 =>
    rw [e1] at h
    replace h : (g env M1).bind _ = _ := h
    cases e2 : g env M1 with
    | bad => rw [e2] at h; cases h
    | exc _ _ => rw [e2] at h; cases h
    | ok y M2 =>
      rw [e2, Out.bind_ok] at h
      cases e3 : cmpv op M2 x y with
      | none => rw [e3] at h; cases h
      | some t =>
        rw [e3] at h
        cases t with
        | false => cases h; exact ⟨_, rfl⟩
        | true =>
          replace h : (k env M2).bind _ = _ := h
          cases e4 : k env M2 with
          | bad => rw [e4] at h; cases h
          | exc _ _ => rw [e4] at h; cases h
          | ok z M3 => rw [e4, Out.bind_ok] at h; exact (cmp_bool h).2
theorem gb_chain {op op' : CmpOp} (hu : X.A.units + 65 < cLine) (hm : lastMarks [op, op'] [b, c] = false) (ha : GE X E a f) (hb : GE X E b g) (hc : GE X E c k) : GB X E (.Compare a [op, op'] [b, c] pos) (sB (sChain op op' f g k)) :=
  PT.imp (pt_chain (rCmp_ok hu op) (rCmp_ok hu op') ha hb hc hm) fun σ H Q ⟨W, Z, φ, env, M, R, Er, h⟩ => by
    refine chain_run R Er ?_
    unfold sB at h
    cases e : sChain op op' f g k env M with
    | bad => rw [e] at h; exact h
    | exc _ _ => rw [e] at h; exact h
    | ok av M' =>
      obtain ⟨t, rfl⟩ := chain_bool e
      rw [e] at h
      intro W' H' v R' x r
      cases r
      exact ⟨t, rfl, h W' H' t R' x rfl⟩
end

/-! ## argument lists -/
def sNil : SL := fun _ M => .ok [] M
def sCons (f : SE) (l : SL) : SL := fun env M => (f env M).bind fun x M1 => (l env M1).bind fun xs M2 => .ok (x.settle :: xs) M2
section
variable {G : Gm} {W W1 Z B : Addr → Prop} {φ : List Addr} {H : Hp} {M M' : Mem} {Q : VK} {E : XK} {v u : V}
theorem RunL.ok {avs : List AV} {vs : List V} {Q : List V → Hp → Prop} (R : Rel G W Z φ M H) (h : RunL G Z φ W H (.ok avs M) Q E) (r : SRs G (Bar W Z) φ H avs vs) : Q vs H := h W H vs R (Ext.refl _ _) r
theorem SRs.length : ∀ {xs : List AV} {vs : List V}, SRs G B φ H xs vs → xs.length = vs.length
  | [], [], _ => rfl
  | [], _ :: _, h => h.elim
  | _ :: _, [], h => h.elim
  | _ :: _, _ :: _, ⟨_, h2⟩ => by simp [SRs.length h2]
/-- a value that is kept: the cell it may be is closed -/
theorem keep_ok (R : Rel G W Z φ M H) {av : AV} {d : D} (r : SR G (Bar W Z) φ H av v) (h : keepD av M = some (d, M')) :
    ∃ W', Rel G W' Z φ M' H ∧ (∀ a, W' a → W a) ∧ RD G (Bar W' Z) H d v := by
  cases av with
  | d x => cases h; exact ⟨W, R, fun _ z => z, r⟩
  | fr xs => cases h; exact ⟨W, R, fun _ z => z, r⟩
  | scr ns => cases h
  | cell i =>
    obtain ⟨p, e, rfl⟩ := r
    unfold keepD at h
    simp only at h
    split at h
    · rename_i xs e2
      cases h
      obtain ⟨wp, vs, h1, h2⟩ := R.cell _ _ _ e e2
      refine ⟨fun a => W a ∧ a ≠ p, ⟨by rw [List.length_set]; exact R.len, R.nd, fun a z => R.wt a z.1, R.zt, R.sep, fun j q c e3 e4 => ?_⟩, fun _ z => z.1, ?_⟩
      · have hj : j ≠ i := fun z => by
          subst z
          rw [List.getElem?_set_self (by rw [← R.len]; exact (List.getElem?_eq_some_iff.mp e3).1)] at e4
          cases e4
        rw [List.getElem?_set_ne (Ne.symm hj)] at e4
        obtain ⟨w, r⟩ := R.cell j q c e3 e4
        have hq : q ≠ p := fun z => by
          subst z
          obtain ⟨l1, g1⟩ := List.getElem?_eq_some_iff.mp e3
          obtain ⟨l2, g2⟩ := List.getElem?_eq_some_iff.mp e
          exact hj ((List.getElem_inj R.nd).mp (g1.trans g2.symm))
        exact ⟨⟨w, hq⟩, r.ext (Ext.less fun a z => z.imp (fun z => z.1) id) rfl⟩
      · refine .lst ⟨h1, fun z => z.elim (fun z => z.2 rfl) fun z => ?_⟩ (h2.less fun a z => z.imp (fun z => z.1) id)
        exact (R.sep i p e).2 z
    · cases h
theorem keeps_ok : ∀ {avs : List AV} {vs : List V} {ds : List D} {W : Addr → Prop} {M M' : Mem}, Rel G W Z φ M H → SRs G (Bar W Z) φ H avs vs → keepDs avs M = some (ds, M') →
    ∃ W', Rel G W' Z φ M' H ∧ (∀ a, W' a → W a) ∧ RDs G (Bar W' Z) H ds vs
  | [], [], _, W, _, _, R, _, h => by cases h; exact ⟨W, R, fun _ z => z, .nil⟩
  | [], _ :: _, _, _, _, _, _, r, _ => r.elim
  | _ :: _, [], _, _, _, _, _, r, _ => r.elim
  | a :: r, v :: vs, ds, W, M, M', R, ⟨r1, r2⟩, h => by
    unfold keepDs at h
    split at h
    · cases h
    · rename_i x M1 e1
      obtain ⟨W1, R1, l1, d1⟩ := keep_ok R r1 e1
      split at h
      · cases h
      · rename_i xs M2 e2
        cases h
        obtain ⟨W2, R2, l2, d2⟩ := keeps_ok R1 (r2.ext (Ext.bar (Ext.less l1))) e2
        exact ⟨W2, R2, fun a z => l1 a (l2 a z), .cons (d1.ext (Ext.bar (Ext.less l2))) d2⟩
end
/-! ## displays, calls -/
def sTup (l : SL) : SE := fun env M => (l env M).bind fun avs M1 => match keepDs avs M1 with
  | some (xs, M2) => guard (decide (xs.length ≤ sizeLine)) (.ok (.d (.tup xs)) M2)
  | none => .bad
def sLst (l : SL) : SE := fun env M => (l env M).bind fun avs M1 => match keepDs avs M1 with
  | some (xs, M2) => guard (decide (xs.length ≤ sizeLine)) (.ok (.fr xs) M2)
  | none => .bad
def sArgs (op : List AV → Mem → Out AV) (l : SL) : SE := fun env M => (l env M).bind fun avs M1 => op avs M1
section
variable {G : Gm} {W W1 Z B : Addr → Prop} {φ : List Addr} {H : Hp} {M M' : Mem} {Q : VK} {E : XK} {v u : V}
theorem Run.less {r : Out AV} (h : Run G Z φ W H r Q E) (l : ∀ a, W1 a → W a) : Run G Z φ W1 H r Q E := Run.later (Ext.less l) h
end
section
variable {X : Cx} {E : WX} {a b c e : Expr} {es : List Expr} {f g k : SE} {l : SL} {p q : SB} {pos : Pos} {rest : List Expr}
theorem gl_nil : GL X E [] sNil := PA.imp pa_nil fun σ H Q ⟨W, Z, φ, env, M, R, Er, h⟩ => RunL.ok R h trivial
theorem gl_cons (hs : starEach (e :: es) X.env = (false, eval e X.env) :: starEach es X.env) (he : GE X E e f) (hl : GL X E es l) : GL X E (e :: es) (sCons f l) :=
  PA.imp (pa_cons he hl hs) fun σ H Q ⟨W, Z, φ, env, M, R, Er, h⟩ => ⟨W, Z, φ, env, M, R, Er, (RunL.bind h).imp fun v H1 ⟨W1, M1, x, _, R1, x1, r1, h2⟩ =>
    ⟨W1, Z, φ, env, M1, R1, Er.ext x1.bar, (RunL.bind h2).imp fun vs H2 ⟨W2, M2, xs, _, R2, x2, r2, h3⟩ => RunL.ok R2 h3 ⟨(r1.sr.settle).ext x2.bar, r2⟩⟩⟩
theorem ge_tup {k : Nat} (h : GL X E es l) : GE X E (.Tuple es k pos) (sTup l) :=
  PE.imp (pe_tup h) fun σ H Q ⟨W, Z, φ, env, M, R, Er, h⟩ => ⟨W, Z, φ, env, M, R, Er, (Run.bind h).imp fun vs H1 ⟨W1, M1, avs, _, R1, x1, r1, h2⟩ => by
    cases e : keepDs avs M1 with
    | none => rw [e] at h2; exact h2.elim
    | some t =>
      obtain ⟨xs, M2⟩ := t
      rw [e] at h2
      obtain ⟨g, h2⟩ := guard_run (P := fun r => Run (gm X) Z φ W1 H1 r Q _) h2 (fun z => z)
      obtain ⟨W2, R2, l2, d2⟩ := keeps_ok R1 r1 e
      exact ⟨by rw [← d2.length]; exact of_decide_eq_true g, Run.tup R2 (Run.less h2 l2) d2⟩⟩
theorem ge_lst (h : GL X E es l) : GE X E (.List es pos) (sLst l) :=
  PE.imp (pe_lst h) fun σ H Q ⟨W, Z, φ, env, M, R, Er, h⟩ => ⟨W, Z, φ, env, M, R, Er, (Run.bind h).imp fun vs H1 ⟨W1, M1, avs, _, R1, x1, r1, h2⟩ => by
    cases e : keepDs avs M1 with
    | none => rw [e] at h2; exact h2.elim
    | some t =>
      obtain ⟨xs, M2⟩ := t
      rw [e] at h2
      obtain ⟨g, h2⟩ := guard_run (P := fun r => Run (gm X) Z φ W1 H1 r Q _) h2 (fun z => z)
      obtain ⟨W2, R2, l2, d2⟩ := keeps_ok R1 r1 e
      exact ⟨by rw [← d2.length]; exact of_decide_eq_true g, Run.new R2 (Run.less h2 l2) d2⟩⟩
/-- what a call by values asks -/
def rCall (X : Cx) (op : List AV → Mem → Out AV) : List V → Hp → VK → Prop := fun vs H Q => ∃ W Z φ M avs, Rel (gm X) W Z φ M H ∧ SRs (gm X) (Bar W Z) φ H avs vs ∧ Run (gm X) Z φ W H (op avs M) Q fun _ _ _ => False
/-- a built-in that raises nothing -/
theorem ge_bi {op : List AV → Mem → Out AV} {r : List V → Hp → VK → Prop} (hp : ∀ {t : TA}, PA X es t → PE X e (tCB r t)) (hl : GL X E es l)
    (hr : ∀ W Z φ M H avs vs Q E, Rel (gm X) W Z φ M H → SRs (gm X) (Bar W Z) φ H avs vs → Run (gm X) Z φ W H (op avs M) Q E → r vs H Q) : GE X E e (sArgs op l) :=
  PE.imp (hp hl) fun σ H Q ⟨W, Z, φ, env, M, R, Er, h⟩ => ⟨W, Z, φ, env, M, R, Er, (Run.bind h).imp fun vs H1 ⟨W1, M1, avs, _, R1, x1, r1, h2⟩ => hr _ _ _ _ _ _ _ _ _ R1 r1 h2⟩
end

/-! ## subscripts, slices -/
def idx (x y : AV) (M : Mem) : Out AV := match y with
  | .d (.int i) => match lstOf M x, x with
    | some xs, _ => match atI xs i with
      | some d => .ok (.d d) M
      | none => .bad
    | none, .d (.tup xs) => match atI xs i with
      | some d => .ok (.d d) M
      | none => .bad
    | none, .d (.str z) => match decide (z.length ≤ sizeLine), atI z.cps.toList i with
      | true, some c => .ok (.d (.str ⟨#[c]⟩)) M
      | _, _ => .bad
    | _, _ => .bad
  | _ => .bad
def sIdx (f g : SE) : SE := sTwo idx f g
theorem RDs.atI {G : Gm} {B : Addr → Prop} {H : Hp} {xs : List D} {vs : List V} {i : Int} {d : D} (r : RDs G B H xs vs) (h : atI xs i = some d) : ∃ v, L2.atI vs i = some v ∧ RD G B H d v := by
  unfold L2.atI at h ⊢
  rw [← r.length]
  cases e : ixN xs.length i with
  | none => rw [e] at h; cases h
  | some j =>
    rw [e] at h
    obtain ⟨v, e1, r1⟩ := r.get (i := j) h
    exact ⟨v, e1, r1⟩
section
variable {X : Cx} {E : WX} {a b c e : Expr} {es : List Expr} {f g k : SE} {l : SL} {pos : Pos}
theorem ge_idx (hs : PlainIx b) (ha : GE X E a f) (hb : GE X E b g) : GE X E (.Subscript a b pos) (sIdx f g) :=
  ge_two (fun ha hb => pe_ix ix_seq ha hb hs) ha hb fun W Z φ M H x y v u Q E R r1 r2 h => by
    unfold idx at h
    split at h
    · rename_i i
      cases r2
      split at h
      · rename_i xs e
        obtain ⟨p, vs, rfl, h1, h2, _⟩ := R.lst r1 e
        split at h
        · rename_i d e1
          obtain ⟨w, e2, r3⟩ := h2.atI e1
          exact .inl ⟨p, vs, i, w, rfl, rfl, h1, e2, Run.ok R h r3 (fun _ z => by cases z)⟩
        · exact h.elim
      · split at h
        · rename_i d e1
          cases r1 with
          | tup h1 h2 =>
            obtain ⟨w, e2, r3⟩ := h2.atI e1
            exact .inr (.inl ⟨_, _, i, w, rfl, rfl, h1.sq, e2, Run.ok R h r3 (fun _ z => by cases z)⟩)
        · exact h.elim
      · split at h
        · rename_i c e1 e2
          cases r1
          exact .inr (.inr ⟨_, i, c, rfl, rfl, of_decide_eq_true e1, e2, Run.ok R h (.str _) (fun _ z => by cases z)⟩)
        · exact h.elim
      · exact h.elim
    · exact h.elim
/-- an end of a slice -/
def sPart (o : Option SE) (env : Env) (M : Mem) : Out (Option Int) := match o with
  | none => .ok none M
  | some f => (f env M).bind fun x M1 => match x with
    | .d (.int i) => .ok (some i) M1
    | _ => .bad
def cutG {α : Type} (xs : List α) (lo hi : Option Int) : List α := (xs.drop (HT.sIx xs.length 0 lo)).take (HT.sIx xs.length xs.length hi - HT.sIx xs.length 0 lo)
def cutop (x : AV) (lo hi : Option Int) (M : Mem) : Out AV := match lstOf M x, x with
  | some xs, _ => .ok (.fr (cutG xs lo hi)) M
  | none, .d (.tup xs) => .ok (.d (.tup (cutG xs lo hi))) M
  | none, .d (.str z) => guard (decide (z.length ≤ sizeLine)) (.ok (.d (.str (cutS z lo hi))) M)
  | _, _ => .bad
def sSlice (f : SE) (lo hi : Option SE) : SE := fun env M => (f env M).bind fun x M1 => (sPart lo env M1).bind fun i M2 => (sPart hi env M2).bind fun j M3 => cutop x i j M3
theorem po_part {o : Option Expr} {t : TO} {fo : Option SE} (hN : o = none → fo = none ∧ t = tNoPart) (hS : ∀ e, o = some e → ∃ f, fo = some f ∧ t = tPart (rdE (gm X) f E))
    {W Z : Addr → Prop} {φ : List Addr} {H : Hp} {M : Mem} {env : Env} {σ : St} {Q : VK} {kk : Option Int → Mem → Out AV} (R : Rel (gm X) W Z φ M H) (Er : EnvR (gm X) (Bar W Z) φ H env σ)
    (h : Run (gm X) Z φ W H ((sPart fo env M).bind kk) Q (fun c d H' => E c d σ H')) {P : Option Int → Hp → Prop}
    (hP : ∀ i W1 M1 H1, Rel (gm X) W1 Z φ M1 H1 → Ext W H W1 H1 → Run (gm X) Z φ W1 H1 (kk i M1) Q (fun c d H' => E c d σ H') → P i H1) : t σ H P := by
  cases o with
  | none =>
    obtain ⟨rfl, rfl⟩ := hN rfl
    exact hP none W M H R (Ext.refl _ _) h
  | some e =>
    obtain ⟨f, rfl, rfl⟩ := hS e rfl
    have h' : Run (gm X) Z φ W H ((f env M).bind fun x M1 => (match x with | .d (.int i) => Out.ok (some i) M1 | _ => .bad).bind kk) Q (fun c d H' => E c d σ H') := by
      rw [← Out.assoc]; exact h
    refine ⟨W, Z, φ, env, M, R, Er, (Run.bind h').imp fun v H1 ⟨W1, M1, x, _, R1, x1, r1, h2⟩ => ?_⟩
    cases x with
    | d y =>
      cases y with
      | int i => cases r1; exact ⟨i, rfl, hP _ _ _ _ R1 x1 h2⟩
      | _ => exact h2.elim
    | _ => exact h2.elim
theorem cut_run {W Z : Addr → Prop} {φ : List Addr} {H : Hp} {M : Mem} {Q : VK} {E : XK} {x : AV} {v : V} {lo hi : Option Int} {G : Gm} (R : Rel G W Z φ M H) (r : SR G (Bar W Z) φ H x v) (h : Run G Z φ W H (cutop x lo hi M) Q E) :
    (rSlL G.K v lo hi H Q ∨ rSlA G.K v lo hi H Q) ∨ rSlS v lo hi H Q := by
  unfold cutop at h
  split at h
  · rename_i xs e
    obtain ⟨p, vs, rfl, h1, h2, _⟩ := R.lst r e
    refine .inl (.inl ⟨p, vs, rfl, h1, Run.new R h ?_⟩)
    have l := h2.length
    unfold cutG
    rw [l]
    exact (h2.drop _).take _
  · rename_i xs _
    cases r with
    | tup h1 h2 =>
      rename_i p vs
      have l := h2.length
      refine .inl (.inr ⟨p, vs, rfl, h1.sq, fun z => ?_, fun _ => Run.tup R h ?_⟩)
      · have e : cutG xs lo hi = xs := by
          unfold cutG
          rw [l, z.1, z.2, ← l, List.drop_zero, Nat.sub_zero, List.take_length]
        rw [e] at h
        exact Run.ok R h (.tup h1 h2) (fun _ z => by cases z)
      · unfold cutG
        rw [l]
        exact (h2.drop _).take _
  · obtain ⟨g, h⟩ := guard_run (P := fun r => Run G Z φ W H r Q E) h (fun z => z)
    cases r
    exact .inr ⟨_, rfl, of_decide_eq_true g, Run.ok R h (.str _) (fun _ z => by cases z)⟩
  · exact h.elim
theorem ge_slice {lo hi : Option Expr} {tl th : TO} {fl fh : Option SE} {p2 : Pos} (ha : GE X E a f) (hl : PO X lo tl) (hh : PO X hi th)
    (hN : lo = none → fl = none ∧ tl = tNoPart) (hS : ∀ e, lo = some e → ∃ f, fl = some f ∧ tl = tPart (rdE (gm X) f E))
    (hN' : hi = none → fh = none ∧ th = tNoPart) (hS' : ∀ e, hi = some e → ∃ f, fh = some f ∧ th = tPart (rdE (gm X) f E)) : GE X E (.Subscript a (.Slice lo hi none p2) pos) (sSlice f fl fh) :=
  PE.imp (pe_slice ((sl_list (X := X)).or sl_tupA |>.or sl_str) ha hl hh) fun σ H Q ⟨W, Z, φ, env, M, R, Er, h⟩ => ⟨W, Z, φ, env, M, R, Er, (Run.bind h).imp fun v H1 ⟨W1, M1, x, _, R1, x1, r1, h2⟩ =>
    po_part hN hS R1 (Er.ext x1.bar) h2 fun i W2 M2 H2 R2 x2 h3 => po_part hN' hS' R2 ((Er.ext x1.bar).ext x2.bar) h3 fun j W3 M3 H3 R3 x3 h4 => cut_run R3 ((r1.sr.ext x2.bar).ext x3.bar) h4⟩
end
end Mp

namespace Mp
open PySem L2

/-! ## built-in functions -/
def ints? : List D → Option (List Int)
  | [] => some []
  | .int i :: r => (ints? r).map (i :: ·)
  | _ :: _ => none
def bools? : List D → Option (List Bool)
  | [] => some []
  | .bl b :: r => (bools? r).map (b :: ·)
  | _ :: _ => none
theorem ints_ok : ∀ {ds : List D} {ns : List Int}, ints? ds = some ns → ds = ns.map D.int
  | [], _, h => by cases h; rfl
  | d :: r, ns, h => by
    cases d <;> simp only [ints?, Option.map_eq_some_iff] at h <;> try (cases h; done)
    obtain ⟨ms, e, rfl⟩ := h
    rw [ints_ok e]; rfl
theorem bools_ok : ∀ {ds : List D} {ns : List Bool}, bools? ds = some ns → ds = ns.map D.bl
  | [], _, h => by cases h; rfl
  | d :: r, ns, h => by
    cases d <;> simp only [bools?, Option.map_eq_some_iff] at h <;> try (cases h; done)
    obtain ⟨ms, e, rfl⟩ := h
    rw [bools_ok e]; rfl
theorem ints_map : ∀ ns : List Int, ints? (ns.map D.int) = some ns
  | [] => rfl
  | n :: r => by simp only [List.map_cons, ints?, ints_map r, Option.map_some]
theorem bools_map : ∀ ns : List Bool, bools? (ns.map D.bl) = some ns
  | [] => rfl
  | n :: r => by simp only [List.map_cons, bools?, bools_map r, Option.map_some]
def maxL : Int → List Int → Int
  | m, [] => m
  | m, x :: r => maxL (max m x) r
def minL : Int → List Int → Int
  | m, [] => m
  | m, x :: r => minL (min m x) r
theorem maxL_ge : ∀ (r : List Int) (m : Int), m ≤ maxL m r ∧ ∀ y ∈ r, y ≤ maxL m r
  | [], m => ⟨Int.le_refl _, fun _ h => by cases h⟩
  | x :: r, m => by
    obtain ⟨h1, h2⟩ := maxL_ge r (max m x)
    refine ⟨by show m ≤ maxL (max m x) r; omega, fun y hy => ?_⟩
    show y ≤ maxL (max m x) r
    rcases List.mem_cons.mp hy with rfl | hy
    · omega
    · exact h2 y hy
theorem maxL_mem : ∀ (r : List Int) (m : Int), maxL m r ∈ m :: r
  | [], m => by simp [maxL]
  | x :: r, m => by
    have h := maxL_mem r (max m x)
    show maxL (max m x) r ∈ _
    rcases List.mem_cons.mp h with h | h
    · rw [h]
      by_cases q : m ≤ x
      · rw [Int.max_eq_right q]; simp
      · rw [Int.max_eq_left (by omega)]; simp
    · exact .tail _ (.tail _ h)
theorem minL_le : ∀ (r : List Int) (m : Int), minL m r ≤ m ∧ ∀ y ∈ r, minL m r ≤ y
  | [], m => ⟨Int.le_refl _, fun _ h => by cases h⟩
  | x :: r, m => by
    obtain ⟨h1, h2⟩ := minL_le r (min m x)
    refine ⟨by show minL (min m x) r ≤ m; omega, fun y hy => ?_⟩
    show minL (min m x) r ≤ y
    rcases List.mem_cons.mp hy with rfl | hy
    · omega
    · exact h2 y hy
theorem minL_mem : ∀ (r : List Int) (m : Int), minL m r ∈ m :: r
  | [], m => by simp [minL]
  | x :: r, m => by
    have h := minL_mem r (min m x)
    show minL (min m x) r ∈ _
    rcases List.mem_cons.mp h with h | h
    · rw [h]
      by_cases q : m ≤ x
      · rw [Int.min_eq_left q]; simp
      · rw [Int.min_eq_right (by omega)]; simp
    · exact .tail _ (.tail _ h)
def sortI (ns : List Int) : List Int := ns.mergeSort (fun a b => decide (a ≤ b))
theorem sortI_perm (ns : List Int) : (sortI ns).Perm ns := List.mergeSort_perm _ _
theorem sortI_sorted (ns : List Int) : (sortI ns).Pairwise (· ≤ ·) := by
  have h := List.pairwise_mergeSort (le := fun a b : Int => decide (a ≤ b)) (fun a b c h1 h2 => by simp at *; omega) (fun a b => by simp; omega) ns
  exact h.imp fun h => by simpa using h
theorem sorted_unique : ∀ {xs ys : List Int}, xs.Perm ys → xs.Pairwise (· ≤ ·) → ys.Pairwise (· ≤ ·) → xs = ys := fun {xs ys} p h1 h2 =>
  List.Perm.eq_of_pairwise (fun a b _ _ h h' => Int.le_antisymm h h') h1 h2 p

def lenOp : List AV → Mem → Out AV
  | [a], M => match lstOf M a, a with
    | some xs, _ => .ok (.d (.int xs.length)) M
    | none, .d (.tup xs) => .ok (.d (.int xs.length)) M
    | none, .d (.str z) => guard (decide (z.length ≤ sizeLine)) (.ok (.d (.int z.length)) M)
    | _, _ => .bad
  | _, _ => .bad
def boolsOp (f : List Bool → Bool) : List AV → Mem → Out AV
  | [a], M => match (lstOf M a).bind bools? with
    | some bs => .ok (.d (.bl (f bs))) M
    | none => .bad
  | _, _ => .bad
def allOp := boolsOp fun bs => bs.all id
def anyOp := boolsOp fun bs => bs.any id
def sumOp : List AV → Mem → Out AV
  | [a], M => match (lstOf M a).bind ints? with
    | some ns => .ok (.d (.int ns.sum)) M
    | none => .bad
  | _, _ => .bad
def maxOp : List AV → Mem → Out AV
  | [a], M => match (lstOf M a).bind ints? with
    | some (m :: ns) => .ok (.d (.int (maxL m ns))) M
    | _ => .bad
  | [.d (.int i), .d (.int j)], M => .ok (.d (.int (max i j))) M
  | _, _ => .bad
def minOp : List AV → Mem → Out AV
  | [a], M => match (lstOf M a).bind ints? with
    | some (m :: ns) => .ok (.d (.int (minL m ns))) M
    | _ => .bad
  | [.d (.int i), .d (.int j)], M => .ok (.d (.int (min i j))) M
  | _, _ => .bad
def absOp : List AV → Mem → Out AV
  | [.d (.int i)], M => .ok (.d (.int i.natAbs)) M
  | _, _ => .bad
def intOp : List AV → Mem → Out AV
  | [.d (.int i)], M => .ok (.d (.int i)) M
  | [.d (.bl b)], M => .ok (.d (.int (if b = true then 1 else 0))) M
  | _, _ => .bad
def tupleOp : List AV → Mem → Out AV
  | [a], M => match lstOf M a, a with
    | some xs, _ => .ok (.d (.tup xs)) M
    | none, .d (.tup xs) => .ok (.d (.tup xs)) M
    | _, _ => .bad
  | _, _ => .bad
def listOp : List AV → Mem → Out AV
  | [a], M => match lstOf M a, a with
    | some xs, _ => .ok (.fr xs) M
    | none, .d (.tup xs) => .ok (.fr xs) M
    | _, _ => .bad
  | _, _ => .bad
def sortedOp : List AV → Mem → Out AV
  | [a], M => match (lstOf M a).bind ints? with
    | some ns => .ok (.fr ((sortI ns).map D.int)) M
    | none => .bad
  | _, _ => .bad
def strOp : List AV → Mem → Out AV
  | [.d (.int i)], M => guard (decide (i.natAbs.log2 < 1920)) (.ok (.d (.str (toString i))) M)
  | [.d (.str x)], M => .ok (.d (.str x)) M
  | _, _ => .bad

section
variable {G : Gm} {W Z B : Addr → Prop} {φ : List Addr} {H : Hp} {M : Mem} {Q : VK} {E : XK} {v u : V} {avs : List AV} {vs : List V}
theorem SRs.one {a : AV} (r : SRs G B φ H [a] vs) : ∃ v, vs = [v] ∧ SR G B φ H a v := by
  match vs, r with
  | [v], ⟨h, _⟩ => exact ⟨v, rfl, h⟩
theorem SRs.two {a b : AV} (r : SRs G B φ H [a, b] vs) : ∃ v u, vs = [v, u] ∧ SR G B φ H a v ∧ SR G B φ H b u := by
  match vs, r with
  | [v, u], ⟨h, h2, _⟩ => exact ⟨v, u, rfl, h, h2⟩
theorem Rel.ints (R : Rel G W Z φ M H) {av : AV} {ns : List Int} (r : SR G (Bar W Z) φ H av v) (h : (lstOf M av).bind ints? = some ns) : ∃ p, v = .ref p ∧ SqL G.K H p (ns.map V.int) := by
  obtain ⟨xs, e, h⟩ := Option.bind_eq_some_iff.mp h
  obtain ⟨p, vs, rfl, h1, h2, _⟩ := R.lst r e
  rw [ints_ok h] at h2
  rw [h2.ints] at h1
  exact ⟨p, rfl, h1⟩
theorem Rel.bools (R : Rel G W Z φ M H) {av : AV} {ns : List Bool} (r : SR G (Bar W Z) φ H av v) (h : (lstOf M av).bind bools? = some ns) : ∃ p, v = .ref p ∧ SqL G.K H p (ns.map V.bl) := by
  obtain ⟨xs, e, h⟩ := Option.bind_eq_some_iff.mp h
  obtain ⟨p, vs, rfl, h1, h2, _⟩ := R.lst r e
  rw [bools_ok h] at h2
  rw [h2.bls] at h1
  exact ⟨p, rfl, h1⟩
abbrev NotFr (a : AV) : Prop := ∀ xs, a ≠ .fr xs
theorem len_run (R : Rel G W Z φ M H) (r : SRs G (Bar W Z) φ H avs vs) (h : Run G Z φ W H (lenOp avs M) Q E) :
    (∃ p ys, vs = [.ref p] ∧ (SqL G.K H p ys ∨ SqT G.K H p ys) ∧ Q (.int ys.length) H) ∨ (∃ z, vs = [.str z] ∧ z.length ≤ sizeLine ∧ Q (.int z.length) H) := by
  unfold lenOp at h
  split at h
  · obtain ⟨v, rfl, r1⟩ := r.one
    split at h
    · rename_i xs e
      obtain ⟨p, ys, rfl, h1, h2, _⟩ := R.lst r1 e
      refine .inl ⟨p, ys, rfl, .inl h1, ?_⟩
      rw [← h2.length]
      exact Run.ok R h (.int _) (fun _ z => by cases z)
    · cases r1 with
      | tup h1 h2 =>
        refine .inl ⟨_, _, rfl, .inr h1.sq, ?_⟩
        rw [← h2.length]
        exact Run.ok R h (.int _) (fun _ z => by cases z)
    · obtain ⟨g, h⟩ := guard_run (P := fun r => Run G Z φ W H r Q E) h (fun z => z)
      cases r1
      exact .inr ⟨_, rfl, of_decide_eq_true g, Run.ok R h (.int _) (fun _ z => by cases z)⟩
    · exact h.elim
  · exact h.elim
theorem all_run (R : Rel G W Z φ M H) (r : SRs G (Bar W Z) φ H avs vs) (h : Run G Z φ W H (allOp avs M) Q E) : rAll G.K vs H Q := by
  unfold allOp boolsOp at h
  split at h
  · obtain ⟨v, rfl, r1⟩ := r.one
    split at h
    · rename_i bs e
      obtain ⟨p, rfl, h1⟩ := R.bools r1 e
      exact ⟨p, bs, rfl, h1, Run.ok R h (.bl _) (fun _ z => by cases z)⟩
    · exact h.elim
  · exact h.elim
theorem any_run (R : Rel G W Z φ M H) (r : SRs G (Bar W Z) φ H avs vs) (h : Run G Z φ W H (anyOp avs M) Q E) : rAny G.K vs H Q := by
  unfold anyOp boolsOp at h
  split at h
  · obtain ⟨v, rfl, r1⟩ := r.one
    split at h
    · rename_i bs e
      obtain ⟨p, rfl, h1⟩ := R.bools r1 e
      exact ⟨p, bs, rfl, h1, Run.ok R h (.bl _) (fun _ z => by cases z)⟩
    · exact h.elim
  · exact h.elim
theorem sum_run (R : Rel G W Z φ M H) (r : SRs G (Bar W Z) φ H avs vs) (h : Run G Z φ W H (sumOp avs M) Q E) : rSum G.K vs H Q := by
  unfold sumOp at h
  split at h
  · obtain ⟨v, rfl, r1⟩ := r.one
    split at h
    · rename_i bs e
      obtain ⟨p, rfl, h1⟩ := R.ints r1 e
      exact ⟨p, bs, rfl, h1, Run.ok R h (.int _) (fun _ z => by cases z)⟩
    · exact h.elim
  · exact h.elim
theorem max_run (R : Rel G W Z φ M H) (r : SRs G (Bar W Z) φ H avs vs) (h : Run G Z φ W H (maxOp avs M) Q E) : rMax G.K vs H Q ∨ ∃ i j, vs = [.int i, .int j] ∧ Q (.int (if j > i then j else i)) H := by
  unfold maxOp at h
  split at h
  · obtain ⟨v, rfl, r1⟩ := r.one
    split at h
    · rename_i m ns e
      obtain ⟨p, rfl, h1⟩ := R.ints r1 e
      refine .inl ⟨p, _, rfl, h1, by simp, fun k hk hle => ?_⟩
      have e : k = maxL m ns := by
        have h1 := maxL_ge ns m
        have h2 := hle _ (maxL_mem ns m)
        rcases List.mem_cons.mp hk with rfl | hk
        · omega
        · have := h1.2 k hk; omega
      subst e
      exact Run.ok R h (.int _) (fun _ z => by cases z)
    · exact h.elim
  · obtain ⟨v, u, rfl, r1, r2⟩ := r.two
    cases r1; cases r2
    refine .inr ⟨_, _, rfl, ?_⟩
    have e : ∀ i j : Int, (if j > i then j else i) = max i j := fun i j => by split <;> omega
    rw [e]
    exact Run.ok R h (.int _) (fun _ z => by cases z)
  · exact h.elim
theorem min_run (R : Rel G W Z φ M H) (r : SRs G (Bar W Z) φ H avs vs) (h : Run G Z φ W H (minOp avs M) Q E) : rMin G.K vs H Q ∨ ∃ i j, vs = [.int i, .int j] ∧ Q (.int (if j < i then j else i)) H := by
  unfold minOp at h
  split at h
  · obtain ⟨v, rfl, r1⟩ := r.one
    split at h
    · rename_i m ns e
      obtain ⟨p, rfl, h1⟩ := R.ints r1 e
      refine .inl ⟨p, _, rfl, h1, by simp, fun k hk hle => ?_⟩
      have e : k = minL m ns := by
        have h1 := minL_le ns m
        have h2 := hle _ (minL_mem ns m)
        rcases List.mem_cons.mp hk with rfl | hk
        · omega
        · have := h1.2 k hk; omega
      subst e
      exact Run.ok R h (.int _) (fun _ z => by cases z)
    · exact h.elim
  · obtain ⟨v, u, rfl, r1, r2⟩ := r.two
    cases r1; cases r2
    refine .inr ⟨_, _, rfl, ?_⟩
    have e : ∀ i j : Int, (if j < i then j else i) = min i j := fun i j => by split <;> omega
    rw [e]
    exact Run.ok R h (.int _) (fun _ z => by cases z)
  · exact h.elim
theorem abs_run (R : Rel G W Z φ M H) (r : SRs G (Bar W Z) φ H avs vs) (h : Run G Z φ W H (absOp avs M) Q E) : ∃ i, vs = [.int i] ∧ Q (.int (if i < 0 then -i else i)) H := by
  unfold absOp at h
  split at h
  · obtain ⟨v, rfl, r1⟩ := r.one
    cases r1
    refine ⟨_, rfl, ?_⟩
    have e : ∀ i : Int, (if i < 0 then -i else i) = i.natAbs := fun i => by split <;> omega
    rw [e]
    exact Run.ok R h (.int _) (fun _ z => by cases z)
  · exact h.elim
theorem int_run (R : Rel G W Z φ M H) (r : SRs G (Bar W Z) φ H avs vs) (h : Run G Z φ W H (intOp avs M) Q E) : (∃ i, vs = [.int i] ∧ Q (.int i) H) ∨ ∃ k, vs = [.bl k] ∧ Q (.int (if k then 1 else 0)) H := by
  unfold intOp at h
  split at h
  · obtain ⟨v, rfl, r1⟩ := r.one
    cases r1
    exact .inl ⟨_, rfl, Run.ok R h (.int _) (fun _ z => by cases z)⟩
  · obtain ⟨v, rfl, r1⟩ := r.one
    cases r1
    exact .inr ⟨_, rfl, Run.ok R h (.int _) (fun _ z => by cases z)⟩
  · exact h.elim
theorem tuple_run (R : Rel G W Z φ M H) (r : SRs G (Bar W Z) φ H avs vs) (h : Run G Z φ W H (tupleOp avs M) Q E) :
    ∃ p ys, vs = [.ref p] ∧ ((SqL G.K H p ys ∧ ∀ l, H l = none → Q (.ref l) (upd H l (.tup ys))) ∨ (SqT G.K H p ys ∧ Q (.ref p) H)) := by
  unfold tupleOp at h
  split at h
  · obtain ⟨v, rfl, r1⟩ := r.one
    split at h
    · rename_i xs e
      obtain ⟨p, ys, rfl, h1, h2, _⟩ := R.lst r1 e
      exact ⟨p, ys, rfl, .inl ⟨h1, Run.tup R h h2⟩⟩
    · cases r1 with
      | tup h1 h2 => exact ⟨_, _, rfl, .inr ⟨h1.sq, Run.ok R h (.tup h1 h2) (fun _ z => by cases z)⟩⟩
    · exact h.elim
  · exact h.elim
theorem list_run (R : Rel G W Z φ M H) (r : SRs G (Bar W Z) φ H avs vs) (h : Run G Z φ W H (listOp avs M) Q E) :
    ∃ p ys, vs = [.ref p] ∧ (SqL G.K H p ys ∨ SqT G.K H p ys) ∧ ∀ l, H l = none → Q (.ref l) (upd H l (.lst ys)) := by
  unfold listOp at h
  split at h
  · obtain ⟨v, rfl, r1⟩ := r.one
    split at h
    · rename_i xs e
      obtain ⟨p, ys, rfl, h1, h2, _⟩ := R.lst r1 e
      exact ⟨p, ys, rfl, .inl h1, Run.new R h h2⟩
    · cases r1 with
      | tup h1 h2 => exact ⟨_, _, rfl, .inr h1.sq, Run.new R h h2⟩
    · exact h.elim
  · exact h.elim
theorem sorted_run (R : Rel G W Z φ M H) (r : SRs G (Bar W Z) φ H avs vs) (h : Run G Z φ W H (sortedOp avs M) Q E) : rSortedI G.K vs H Q := by
  unfold sortedOp at h
  split at h
  · obtain ⟨v, rfl, r1⟩ := r.one
    split at h
    · rename_i ns e
      obtain ⟨p, rfl, h1⟩ := R.ints r1 e
      refine ⟨p, ns, rfl, h1, fun ms l hp hs hl => ?_⟩
      have e : ms = sortI ns := sorted_unique (hp.trans (sortI_perm ns).symm) hs (sortI_sorted ns)
      subst e
      exact Run.new R h (RDs.of_ints _) l hl
    · exact h.elim
  · exact h.elim
theorem str_run (R : Rel G W Z φ M H) (r : SRs G (Bar W Z) φ H avs vs) (h : Run G Z φ W H (strOp avs M) Q E) : (∃ i, vs = [.int i] ∧ i.natAbs.log2 < 1920 ∧ Q (.str (toString i)) H) ∨ ∃ a, vs = [.str a] ∧ Q (.str a) H := by
  unfold strOp at h
  split at h
  · obtain ⟨v, rfl, r1⟩ := r.one
    obtain ⟨g, h⟩ := guard_run (P := fun r => Run G Z φ W H r Q E) h (fun z => z)
    cases r1
    exact .inl ⟨_, rfl, of_decide_eq_true g, Run.ok R h (.str _) (fun _ z => by cases z)⟩
  · obtain ⟨v, rfl, r1⟩ := r.one
    cases r1
    exact .inr ⟨_, rfl, Run.ok R h (.str _) (fun _ z => by cases z)⟩
  · exact h.elim
end
end Mp

namespace Mp
open PySem L2

/-! ## isinstance -/
def tyName (M : Mem) : AV → Option String
  | .d .non => some "NoneType"
  | .d (.bl _) => some "bool"
  | .d (.int _) => some "int"
  | .d (.str _) => some "str"
  | .d (.tup _) => some "tuple"
  | .d (.fn _) => none
  | a => match lstOf M a with | some _ => some "list" | none => none
def isi1 (t u : String) : Bool := t == u || (t == "bool" && u == "int")
def tyNames : List String := ["NoneType", "bool", "int", "str", "tuple", "list"]
def clsNames : List String := ["int", "bool", "tuple", "list", "str"]
theorem isi_tab : ∀ t ∈ tyNames, ∀ u ∈ clsNames, kitB t u = some (isi1 t u) := by decide +kernel
def isiOp (us : List String) (x : AV) (M : Mem) : Out AV := match tyName M x with
  | some t => .ok (.d (.bl (us.any (isi1 t)))) M
  | none => .bad
def sIsi (us : List String) (f : SE) : SE := sOne (isiOp us) f
theorem tyName_mem {M : Mem} {a : AV} {t : String} (h : tyName M a = some t) : t ∈ tyNames := by
  unfold tyName at h
  split at h <;> first | (cases h; decide) | (split at h <;> first | (cases h; decide) | cases h) | cases h
section
variable {G : Gm} {W Z B : Addr → Prop} {φ : List Addr} {H : Hp} {M : Mem} {v : V}
theorem tyName_ok (R : Rel G W Z φ M H) {a : AV} {t : String} (r : SR G (Bar W Z) φ H a v) (h : tyName M a = some t) : TyX G.K H v (.type t) := by
  unfold tyName at h
  split at h
  · cases h; cases r; exact .base .non
  · cases h; cases r; exact .base (.bl _)
  · cases h; cases r; exact .base (.int _)
  · cases h; cases r; exact .base (.str _)
  · cases h
    cases r with
    | tup h1 h2 =>
      rcases h1 with h1 | ⟨_, o, its, n, h1, h3, _⟩
      · exact .base (.tup h1.1)
      · exact .kTuple h1 h3
  · cases h
  · split at h
    · rename_i xs e
      cases h
      obtain ⟨p, vs, rfl, h1, h2, _⟩ := R.lst r e
      rcases h1 with (h1 | ⟨o, h1⟩) | ⟨o, its, n, h1, h3, _⟩
      · exact .base (.lst h1)
      · exact .base (.frz h1)
      · exact .kList h1 h3
    · cases h
end
theorem kitAny_ty {K : PySem.W.Frag} {t : String} (ht : t ∈ tyNames) : ∀ us : List String, (∀ u ∈ us, u ∈ clsNames) → PySem.W.kitAny K (.type t) (us.map Value.type) = some (us.any (isi1 t))
  | [], _ => rfl
  | u :: us, h => by
    have h1 := isi_tab t ht u (h u (.head _))
    have ih := kitAny_ty (K := K) ht us fun u hu => h u (.tail _ hu)
    refine kitAny_cons (kit_ty h1) (fun e => ?_) fun e => ?_
    · rw [ih, List.any_cons, e, Bool.false_or]
    · rw [List.any_cons, e, Bool.true_or]
theorem paired_ty : ∀ us : List String, Paired ClsV (us.map V.ty) (us.map Value.type)
  | [] => .nil
  | u :: us => .cons (.ty u) (paired_ty us)
/-- the names of classes, as arguments -/
def tTys (us : List String) : TA := fun _ H Q => Q (us.map V.ty) H
section
variable {X : Cx} {E : WX} {a e t : Expr} {es : List Expr} {f : SE} {pos p q : Pos} {k : Nat}
theorem ge_isi1 {u : String} (hg : Gl X "isinstance") (hm : X.mg "isinstance" = none) (hu : u ∈ clsNames) (ht : PE X t (tC (.ty u))) (ha : GE X E a f)
    (h1 : starEach [a, t] X.env = (false, eval a X.env) :: starEach [t] X.env) (h2 : starEach [t] X.env = (false, eval t X.env) :: starEach [] X.env) (h3 : (backTo pos (starEach [t] X.env)).any (·.1) = false) :
    GE X E (.Call (.Name "isinstance" p) [a, t] [] pos) (sIsi [u] f) :=
  PE.imp (pe_callB call_isi hg hm PyProof.Rows.boot_isinstance (pa_cons ha (pa_cons ht pa_nil h2) h1) (he := h1) (hpl := h3)) fun σ H Q ⟨W, Z, φ, env, M, R, Er, h⟩ => ⟨W, Z, φ, env, M, R, Er, (Run.bind h).imp fun v H1 ⟨W1, M1, x, _, R1, x1, r1, h2⟩ => by
    unfold isiOp at h2
    cases e : tyName M1 x with
    | none => rw [e] at h2; exact h2.elim
    | some t =>
      rw [e] at h2
      have c := isi_tab t (tyName_mem e) u hu
      refine ⟨v, .ty u, .type t, .type u, isi1 t u, rfl, .ty u, tyName_ok R1 r1.sr e, kit_ty c, ?_⟩
      have z : [u].any (isi1 t) = isi1 t u := by simp
      dsimp only at h2
      rw [z] at h2
      exact Run.ok R1 h2 (.bl _) (fun _ z => by cases z)⟩
theorem ge_isiT {us : List String} (hg : Gl X "isinstance") (hm : X.mg "isinstance" = none) (hu : ∀ u ∈ us, u ∈ clsNames) (hl : us.length ≤ sizeLine) (ht : PA X es (tTys us)) (ha : GE X E a f)
    (h1 : starEach [a, .Tuple es k q] X.env = (false, eval a X.env) :: starEach [.Tuple es k q] X.env) (h2 : starEach [.Tuple es k q] X.env = (false, eval (.Tuple es k q) X.env) :: starEach [] X.env) (h3 : (backTo pos (starEach [.Tuple es k q] X.env)).any (·.1) = false) :
    GE X E (.Call (.Name "isinstance" p) [a, .Tuple es k q] [] pos) (sIsi us f) :=
  PE.imp (pe_callB call_isiT hg hm PyProof.Rows.boot_isinstance (pa_cons ha (pa_cons (pe_tup ht) pa_nil h2) h1) (he := h1) (hpl := h3)) fun σ H Q ⟨W, Z, φ, env, M, R, Er, h⟩ => ⟨W, Z, φ, env, M, R, Er, (Run.bind h).imp fun v H1 ⟨W1, M1, x, _, R1, x1, r1, h2⟩ => by
    unfold isiOp at h2
    cases e : tyName M1 x with
    | none => rw [e] at h2; exact h2.elim
    | some t =>
      rw [e] at h2
      refine ⟨by rw [List.length_map]; exact hl, fun tp htp => ?_⟩
      have R2 := R1.laid0 (o := .tup (us.map V.ty)) htp
      have x2 := Ext.laid R1 (o := .tup (us.map V.ty)) htp
      refine ⟨v, tp, us.map V.ty, .type t, us.map Value.type, us.any (isi1 t), rfl, upd_same, ?_, tyName_ok R2 (r1.sr.ext x2.bar) e, kitAny_ty (tyName_mem e) us hu, Run.ok R2 (Run.later x2 h2) (.bl _) (fun _ z => by cases z)⟩
      exact paired_ty us⟩
end

/-! ## calls of own defs -/
def spOf (G : Gm) (F : List AV → Mem → Out AV) : Sp := fun vs H Q E => ∃ W Z φ M avs, Rel G W Z φ M H ∧ SRs G (Bar W Z) φ H avs vs ∧ Run G Z φ W H (F avs M) Q E
/-- a def that may be called here -/
structure Cald (X : Cx) (k : Nat) (x : Str) (F : List AV → Mem → Out AV) : Prop where
  ex : ∃ f fd ps, X.mg x = some (.ref f) ∧ PySem.W.keepIn X.K (.ref f) = true ∧ Binds X.K fd ps [] ∧ FnOk X.prog X.w X.K X.mg X.base (L2.CX X.prog X.w) k f fd ps (spOf (gm X) F)
section
variable {X : Cx} {E : WX} {a e t : Expr} {es : List Expr} {l : SL} {pos p q : Pos} {k : Nat}
theorem ge_call {x : Str} {F : List AV → Mem → Out AV} (c : Cald X k x F) (hr : Room k X.A) (tk : Takes X E) (hg : Gl X x) (hl : GL X E (e :: es) l) (hdb : (x == ("__debug__" : Str)) = false)
    (he : starEach (e :: es) X.env = (false, eval e X.env) :: starEach es X.env) (hpl : (backTo pos (starEach es X.env)).any (·.1) = false) : GE X E (.Call (.Name x p) (e :: es) [] pos) (sArgs F l) := by
  obtain ⟨f, fd, ps, h1, h2, h3, h4⟩ := c.ex
  exact PE.imp (pe_callS h4 hr hg h1 h2 h3 (fun σ => passAt tk σ) hl hdb he hpl) fun σ H Q ⟨W, Z, φ, env, M, R, Er, h⟩ => ⟨W, Z, φ, env, M, R, Er, (Run.bind h).imp fun vs H1 ⟨W1, M1, avs, _, R1, x1, r1, h2⟩ => ⟨W1, Z, φ, M1, avs, R1, r1, h2⟩⟩
end

/-! ## targets -/
inductive Tg where
  | name (i : Nat) | nil | cons (a b : Tg) | tup (a : Tg)
def Tg.bind : Tg → D → Env → Option Env
  | .name i, d, env => some (env.set i (some (.d d)))
  | .nil, .tup [], env => some env
  | .cons a b, .tup (x :: r), env => match a.bind x env with
    | some e => b.bind (.tup r) e
    | none => none
  | .tup a, .tup r, env => a.bind (.tup r) env
  | _, _, _ => none
def Tg.slots : Tg → List Nat
  | .name i => [i]
  | .nil => []
  | .cons a b => a.slots ++ b.slots
  | .tup a => a.slots
def rdT (G : Gm) (t : Tg) : TG := fun v σ H Q => ∃ W Z φ env M d env', Rel G W Z φ M H ∧ EnvR G (Bar W Z) φ H env σ ∧ RD G (Bar W Z) H d v ∧ t.bind d env = some env' ∧
  ∀ σ', EnvR G (Bar W Z) φ H env' σ' → (∀ j, j ∉ t.slots → σ'[j]? = σ[j]?) → Q σ' H
def rdTs (G : Gm) (t : Tg) : TGs := fun vs σ H Q => ∃ W Z φ env M ds env', Rel G W Z φ M H ∧ EnvR G (Bar W Z) φ H env σ ∧ RDs G (Bar W Z) H ds vs ∧ t.bind (.tup ds) env = some env' ∧
  ∀ σ', EnvR G (Bar W Z) φ H env' σ' → (∀ j, j ∉ t.slots → σ'[j]? = σ[j]?) → Q σ' H
theorem EnvR.set {G : Gm} {B : Addr → Prop} {φ : List Addr} {H : Hp} {env : Env} {σ : St} (h : EnvR G B φ H env σ) {av : AV} {v : V} (r : SR G B φ H av v) (i : Nat) : EnvR G B φ H (env.set i (some av)) (σ.set i (some v)) :=
  ⟨by rw [List.length_set, List.length_set]; exact h.len, fun j a e => by
    by_cases hj : i = j
    · subst hj
      by_cases hi : i < env.length
      · rw [List.getElem?_set_self hi] at e
        cases e
        exact ⟨v, List.getElem?_set_self (by rw [← h.len]; exact hi), r⟩
      · rw [List.getElem?_eq_none (by rw [List.length_set]; omega)] at e; cases e
    · rw [List.getElem?_set_ne hj] at e
      obtain ⟨u, e1, r1⟩ := h.at_ j a e
      exact ⟨u, by rw [List.getElem?_set_ne hj]; exact e1, r1⟩⟩
section
variable {X : Cx} {a : Expr} {es : List Expr} {pos : Pos} {t u : Tg}
theorem PG.imp {t t' : TG} (h : PG X a t) (k : ∀ v σ H Q, t' v σ H Q → t v σ H Q) : PG X a t' := ⟨fun pins s σ H v w Q I r q => h.run pins s σ H v w Q I r (k v σ H Q q)⟩
theorem PGs.imp {t t' : TGs} (h : PGs X es t) (k : ∀ v σ H Q, t' v σ H Q → t v σ H Q) : PGs X es t' := ⟨fun pins s σ H v w Q I r q => h.run pins s σ H v w Q I r (k v σ H Q q)⟩
theorem gg_name {i : Nat} {x : Str} (hN : X.N.Nodup) (hi : X.N[i]? = some x) (hx : Loc X.env.scope x) (hf : X.fn x = true ∨ X.env.scope.names.lookup x = some .local) : PG X (.Name x pos) (rdT (gm X) (.name i)) :=
  PG.imp (pg_name hN hi hx hf) fun v σ H Q ⟨W, Z, φ, env, M, d, env', R, Er, r, hb, q⟩ => by
    cases hb
    exact q _ (Er.set (av := .d d) r i) fun j hj => List.getElem?_set_ne fun z => hj (by subst z; simp [Tg.slots])
theorem gg_nil : PGs X [] (rdTs (gm X) .nil) :=
  PGs.imp pgs_nil fun v σ H Q ⟨W, Z, φ, env, M, ds, env', R, Er, r, hb, q⟩ => by
    cases ds with
    | nil => cases r; cases hb; exact ⟨rfl, q _ Er fun _ _ => rfl⟩
    | cons _ _ => cases hb
theorem gg_cons (h1 : PG X a (rdT (gm X) t)) (h2 : PGs X es (rdTs (gm X) u)) (hs : (assignEach (a :: es) X.env).map (·.2) = assign a X.env :: (assignEach es X.env).map (·.2)) : PGs X (a :: es) (rdTs (gm X) (.cons t u)) :=
  PGs.imp (pgs_cons h1 h2 hs) fun v σ H Q ⟨W, Z, φ, env, M, ds, env', R, Er, r, hb, q⟩ => by
    cases ds with
    | nil => cases hb
    | cons d ds =>
      cases r with
      | cons r1 r2 =>
        unfold Tg.bind at hb
        cases e : t.bind d env with
        | none => rw [e] at hb; cases hb
        | some env1 =>
          rw [e] at hb
          refine ⟨_, _, rfl, W, Z, φ, env, M, d, env1, R, Er, r1, e, fun σ1 Er1 s1 => ⟨W, Z, φ, env1, M, ds, env', R, Er1, r2, hb, fun σ2 Er2 s2 => q σ2 Er2 fun j hj => ?_⟩⟩
          simp only [Tg.slots, List.mem_append, not_or] at hj
          rw [s2 j hj.2, s1 j hj.1]
theorem gg_tup {k n : Nat} (hc : X.calm = true) (h : PGs X es (rdTs (gm X) t)) (hn : (assignEach es X.env).length = n) (hst : (assignEach es X.env).findIdx? (·.1) = none)
    (hl : ∀ ds env env', t.bind (.tup ds) env = some env' → ds.length = n) : PG X (.Tuple es k pos) (rdT (gm X) (.tup t)) :=
  PG.imp (pg_tup hc h hn hst) fun v σ H Q ⟨W, Z, φ, env, M, d, env', R, Er, r, hb, q⟩ => by
    cases d with
    | tup ds =>
      cases r with
      | tup r1 r2 => exact ⟨_, _, rfl, r1.sq, by rw [← r2.length]; exact hl ds env env' hb, W, Z, φ, env, M, ds, env', R, Er, r2, hb, q⟩
    | _ => cases hb
end
end Mp

namespace Mp
open PySem L2

/-! ## what is walked -/
structure Itm where
  items : List D
  deps : List (Nat × List D)
def depsOk (M : Mem) (deps : List (Nat × List D)) : Bool := deps.all fun p => decide (M[p.1]? = some (some (.l p.2)))
abbrev SI := Env → Mem → Out Itm
structure Later (G : Gm) (Z : Addr → Prop) (φ : List Addr) (W₁ : Addr → Prop) (H₁ : Hp) (deps : List (Nat × List D)) (Z' W : Addr → Prop) (ψ : List Addr) (M : Mem) (H : Hp) : Prop where
  bar : ∀ a, Z' a → Z a ∨ H₁ a = none
  rel : Rel G W Z' (φ ++ ψ) M H
  ext : Ext W₁ H₁ W H
  ok : depsOk M deps = true
def IR (G : Gm) (Z : Addr → Prop) (φ : List Addr) (W₁ : Addr → Prop) (H₁ : Hp) (it : Itm) (J : It) : Prop :=
  ∃ Gd Y, Walk J it.items.length Gd Y ∧ (∀ Z' W ψ M H, Later G Z φ W₁ H₁ it.deps Z' W ψ M H → Gd H) ∧
    ∀ i x H' Z' W ψ M H, Later G Z φ W₁ H₁ it.deps Z' W ψ M H → i < it.items.length → Y i H x H' → ∃ d, it.items[i]? = some d ∧ Rel G W Z' (φ ++ ψ) M H' ∧ Ext W H W H' ∧ RD G (Bar W Z') H' d x
def rdI (G : Gm) (f : SI) (E : WX) : TI := fun σ H R => ∃ W Z φ env M, Rel G W Z φ M H ∧ EnvR G (Bar W Z) φ H env σ ∧ RunG (fun W' H' _ it J => IR G Z φ W' H' it J) G Z φ W H (f env M) R fun c d H' => E c d σ H'
abbrev GI (X : Cx) (E : WX) (tg e : Expr) (f : SI) : Prop := PI X tg e (rdI (gm X) f E)

section
variable {G : Gm} {W Z W₁ : Addr → Prop} {φ : List Addr} {H H₁ : Hp} {M : Mem} {deps : List (Nat × List D)} {Z' : Addr → Prop} {ψ : List Addr} {E : XK}
/-- data of the start are data later -/
theorem Later.rd (L : Later G Z φ W₁ H₁ deps Z' W ψ M H) : Ext (Bar W₁ Z) H₁ (Bar W Z') H :=
  ⟨fun a o e n => ⟨(L.ext.keep a o e fun z => n (.inl z)).1, fun z => z.elim (L.ext.keep a o e fun z => n (.inl z)).2 fun z => (L.bar a z).elim (fun z => n (.inr z)) fun z => by rw [z] at e; cases e⟩, L.ext.live⟩
theorem IR.run {it : Itm} {J : It} {R : It → Hp → Prop} (Rl : Rel G W Z φ M H) (h : RunG (fun W' H' _ it J => IR G Z φ W' H' it J) G Z φ W H (.ok it M) R E) (q : IR G Z φ W H it J) : R J H := h W H J Rl (Ext.refl _ _) q
/-- a list as it stands at each turn -/
theorem walk_any {K : PySem.W.Frag} {a : Addr} {n : Nat} : Walk (Itl K a) n (fun H => ∃ vs, SqL K H a vs ∧ vs.length = n) (fun i H x H' => H' = H ∧ ∀ vs, SqL K H a vs → vs[i]? = some x) :=
  ⟨fun i H hi ⟨vs, q, e⟩ => ⟨vs, vs[i]'(by omega), q, by simp [e, hi]⟩, fun H ⟨vs, q, e⟩ => ⟨vs, q, by omega⟩, fun _ _ _ _ _ _ y => y⟩
/-- a settled list: how it is met later -/
def depOf (x : AV) (xs : List D) : List (Nat × List D) := match x with
  | .cell i => [(i, xs)]
  | _ => []
theorem lst_later {x : AV} {v : V} {xs : List D} (R : Rel G W₁ Z φ M H₁) (r : SR G (Bar W₁ Z) φ H₁ x v) (h : lstOf M x = some xs) :
    ∃ p, v = .ref p ∧ (∃ vs, SqL G.K H₁ p vs) ∧ ∀ deps Z' W ψ M' H, (∀ q ∈ depOf x xs, q ∈ deps) → Later G Z φ W₁ H₁ deps Z' W ψ M' H → ∃ vs, SqL G.K H p vs ∧ RDs G (Bar W Z') H xs vs := by
  obtain ⟨p, vs, rfl, h1, h2, h3⟩ := R.lst r h
  refine ⟨p, rfl, ⟨vs, h1⟩, fun deps Z' W ψ M' H hd L => ?_⟩
  cases x with
  | cell i =>
    obtain ⟨p', e, e'⟩ := r
    cases e'
    have hd := hd (i, xs) (by simp [depOf])
    have ok := List.all_eq_true.mp L.ok _ hd
    have ok := of_decide_eq_true ok
    obtain ⟨_, vs', k1, k2⟩ := L.rel.cell i p _ (by rw [List.getElem?_append_left (List.getElem?_eq_some_iff.mp e).1]; exact e) ok
    exact ⟨vs', .of k1, k2⟩
  | d y =>
    have r' : RD G (Bar W Z') H y (.ref p) := RD.ext L.rd r
    cases y with
    | lst ys =>
      have e : ys = xs := by simpa [lstOf] using h
      subst e
      cases r' with | lst k1 k2 => exact ⟨_, k1.sq, k2⟩
    | _ => cases h
  | fr ys =>
    have r' : RD G (Bar W Z') H (.lst ys) (.ref p) := RD.ext L.rd r
    have e : ys = xs := by simpa [lstOf] using h
    subst e
    cases r' with | lst k1 k2 => exact ⟨_, k1.sq, k2⟩
  | scr ns =>
    obtain ⟨a, e, s⟩ := r
    cases e
    have e : ns.map D.int = xs := by simpa [lstOf] using h
    subst e
    exact ⟨_, (s.ext L.rd).sq, RDs.of_ints ns⟩
end

/-! ### lists, tuples, texts -/
def chars (z : Str) : List D := z.cps.toList.map fun c => .str ⟨#[c]⟩
def seqItm (M : Mem) (x : AV) : Option Itm := match lstOf M x, x with
  | some xs, _ => some ⟨xs, depOf x xs⟩
  | none, .d (.tup xs) => some ⟨xs, []⟩
  | none, .d (.str z) => some ⟨chars z, []⟩
  | _, _ => none
def sSeq (f : SE) : SI := fun env M => (f env M).bind fun x M1 => match seqItm M1 x with
  | some it => .ok it M1
  | none => .bad
section
variable {X : Cx} {E : WX} {tg a b c e : Expr} {f g k : SE} {l : SL} {pos p : Pos}
theorem PI.imp {t t' : TI} (h : PI X tg e t) (k : ∀ σ H Q, t' σ H Q → t σ H Q) : PI X tg e t' := ⟨fun pins s σ H Q I q => h.run pins s σ H Q I (k σ H Q q)⟩
theorem PI.or {t t' : TI} (h : PI X tg e t) (h' : PI X tg e t') : PI X tg e (fun σ H Q => t σ H Q ∨ t' σ H Q) := ⟨fun pins s σ H Q I q => q.elim (h.run pins s σ H Q I) (h'.run pins s σ H Q I)⟩
theorem RunI.bind {α β : Type} {G : Gm} {W Z : Addr → Prop} {φ : List Addr} {H : Hp} {E : XK} {R : (Addr → Prop) → Hp → Mem → α → β → Prop} {r : Out α} {k : α → Mem → Out Itm} {Q : It → Hp → Prop}
    (h : RunG (fun W' H' _ it J => IR G Z φ W' H' it J) G Z φ W H (r.bind k) Q E) :
    RunG R G Z φ W H r (fun v H1 => ∃ W1 M1 a, r = .ok a M1 ∧ Rel G W1 Z φ M1 H1 ∧ Ext W H W1 H1 ∧ R W1 H1 M1 a v ∧ RunG (fun W' H' _ it J => IR G Z φ W' H' it J) G Z φ W1 H1 (k a M1) Q E) E :=
  RunG.bind (R2 := fun _ _ W' H' _ it J => IR G Z φ W' H' it J) h fun W1 H1 a M1 x => by
    cases k a M1 with
    | ok it M' => exact fun q W' H' v R y z => q W' H' v R (x.trans y) z
    | exc e M' => exact fun q W' H' c d R y z => q W' H' c d R (x.trans y) z
    | bad => exact fun q => q
theorem gi_seq (ha : GE X E a f) : GI X E tg a (sSeq f) := by
  refine PI.imp (PI.or (PI.or (pi_list (tg := tg) ha) (pi_tup (tg := tg) ha)) (pi_str (tg := tg) ha)) fun σ H Q ⟨W, Z, φ, env, M, R, Er, h⟩ => ?_
  have h1 := RunI.bind (R := fun W' H' M' av v => VR (gm X) W' Z φ H H' M' av v) h
  have go : ∀ {P : V → Hp → Prop}, (∀ v H1 W1 M1 x, f env M = .ok x M1 → Rel (gm X) W1 Z φ M1 H1 → SR (gm X) (Bar W1 Z) φ H1 x v →
      RunG (fun W' H' _ it J => IR (gm X) Z φ W' H' it J) (gm X) Z φ W1 H1 (match seqItm M1 x with | some it => .ok it M1 | none => .bad) Q (fun c d H' => E c d σ H') → P v H1) → rdE (gm X) f E σ H P := fun {P} hP =>
    ⟨W, Z, φ, env, M, R, Er, h1.imp fun v H1 ⟨W1, M1, x, e, R1, x1, r1, h2⟩ => hP v H1 W1 M1 x e R1 r1.sr h2⟩
  cases e : f env M with
  | bad => exact .inl (.inl (go fun v H1 W1 M1 x e1 => by rw [e] at e1; cases e1))
  | exc _ _ => exact .inl (.inl (go fun v H1 W1 M1 x e1 => by rw [e] at e1; cases e1))
  | ok x M1 =>
    cases el : lstOf M1 x with
    | some xs =>
      refine .inl (.inl (go fun v H1 W1 M1' x' e1 R1 r1 h2 => ?_))
      rw [e] at e1; cases e1
      have es : seqItm M1 x = some ⟨xs, depOf x xs⟩ := by unfold seqItm; rw [el]
      rw [es] at h2
      obtain ⟨p, rfl, hq, hl⟩ := lst_later R1 r1 el
      refine ⟨p, rfl, hq, IR.run R1 h2 ⟨_, _, walk_any, fun Z' W ψ M H L => ?_, fun i y H' Z' W ψ M H L hi hy => ?_⟩⟩
      · obtain ⟨vs, h1, h2⟩ := hl _ Z' W ψ M H (fun _ z => z) L
        exact ⟨vs, h1, h2.length.symm⟩
      · obtain ⟨vs, h1, h2⟩ := hl _ Z' W ψ M H (fun _ z => z) L
        obtain ⟨rfl, hy⟩ := hy
        have hy := hy vs h1
        obtain ⟨d, hd⟩ : ∃ d, xs[i]? = some d := ⟨xs[i], by simp [show i < xs.length from hi]⟩
        obtain ⟨w, e1, r1⟩ := h2.get hd
        rw [hy] at e1; cases e1
        exact ⟨d, hd, L.rel, Ext.refl _ _, r1⟩
    | none =>
      have other : ∀ {R : Itm → Prop}, seqItm M1 x = none → True := fun _ => trivial
      cases x with
      | d y =>
        cases y with
        | tup xs =>
          refine .inl (.inr (go fun v H1 W1 M1' x' e1 R1 r1 h2 => ?_))
          rw [e] at e1; cases e1
          cases r1 with
          | tup k1 k2 =>
            rename_i p vs
            refine ⟨p, rfl, ⟨vs, k1.sq⟩, ?_⟩
            have ln : vs.length = xs.length := k2.length.symm
            have w := walk_tup (K := X.K) (a := p) (xs := vs)
            rw [ln] at w
            refine IR.run R1 h2 ⟨_, _, w, fun Z' W ψ M H L => (k1.ext L.rd).sq, fun i y H' Z' W ψ M H L hi hy => ?_⟩
            obtain ⟨rfl, hy⟩ := hy
            obtain ⟨d, hd⟩ : ∃ d, xs[i]? = some d := ⟨xs[i], by simp [show i < xs.length from hi]⟩
            obtain ⟨w, e1, r1⟩ := (k2.ext L.rd).get hd
            rw [hy] at e1; cases e1
            exact ⟨d, hd, L.rel, Ext.refl _ _, r1⟩
        | str z =>
          refine .inr (go fun v H1 W1 M1' x' e1 R1 r1 h2 => ?_)
          rw [e] at e1; cases e1
          cases r1
          refine ⟨z, rfl, ?_⟩
          have w := walk_str (z := z)
          have ln : z.cps.size = (chars z).length := by unfold chars; simp
          rw [ln] at w
          refine IR.run R1 h2 ⟨_, _, w, fun _ _ _ _ _ _ => trivial, fun i y H' Z' W ψ M H L hi hy => ?_⟩
          obtain ⟨rfl, c, hc, rfl⟩ := hy
          exact ⟨.str ⟨#[c]⟩, by unfold chars; simp [hc], L.rel, Ext.refl _ _, .str _⟩
        | _ =>
          refine .inl (.inl (go fun v H1 W1 M1' x' e1 R1 r1 h2 => ?_))
          rw [e] at e1; cases e1
          first | exact h2.elim | (simp [lstOf] at el)
      | _ =>
        refine .inl (.inl (go fun v H1 W1 M1' x' e1 R1 r1 h2 => ?_))
        rw [e] at e1; cases e1
        unfold seqItm at h2
        rw [el] at h2
        exact h2.elim
/-! ### ranges -/
end
def rngL (lo : Int) (n : Nat) : List D := (List.range n).map fun (k : Nat) => .int (lo + k)
def rngC (lo c : Int) (n : Nat) : List D := (List.range n).map fun (k : Nat) => .int (lo + k * c)
def small62 (i : Int) : Bool := decide (-(2 ^ 62) ≤ i) && decide (i < 2 ^ 62)
def rngItm : List AV → Option Itm
  | [.d (.int j)] => if small62 j = true then some ⟨rngL 0 j.toNat, []⟩ else none
  | [.d (.int i), .d (.int j)] => if (small62 i && small62 j) = true then some ⟨rngL i (j - i).toNat, []⟩ else none
  | [.d (.int i), .d (.int j), .d (.int c)] =>
    if c = -1 then (if (small62 i && small62 j) = true then some ⟨rngC i (-1) (i - j).toNat, []⟩ else none)
    else if c ≠ 0 ∧ c.natAbs < 1073741824 ∧ Builtin.Range.small i j c = true ∧ Builtin.Range.rangeSize i j c = ((Builtin.Range.rangeSize i j c).toNat : Int) then some ⟨rngC i c (Builtin.Range.rangeSize i j c).toNat, []⟩ else none
  | _ => none
def sRng (l : SL) : SI := fun env M => (l env M).bind fun avs M1 => match rngItm avs with
  | some it => .ok it M1
  | none => .bad
theorem rngL_at {lo : Int} {n i : Nat} (h : i < n) : (rngL lo n)[i]? = some (.int (lo + i)) := by unfold rngL; simp [h]
theorem rngC_at {lo c : Int} {n i : Nat} (h : i < n) : (rngC lo c n)[i]? = some (.int (lo + i * c)) := by unfold rngC; simp [h]
theorem rngL_len {lo : Int} {n : Nat} : (rngL lo n).length = n := by unfold rngL; simp
theorem rngC_len {lo c : Int} {n : Nat} : (rngC lo c n).length = n := by unfold rngC; simp
theorem small62_ok {i : Int} (h : small62 i = true) : -(2 ^ 62) ≤ i ∧ i < 2 ^ 62 := by
  unfold small62 at h
  simpa using h
section
variable {G : Gm} {W Z W₁ : Addr → Prop} {φ : List Addr} {H H₁ : Hp} {M : Mem} {E : XK}
theorem ir_rng {lo : Int} {n : Nat} : IR G Z φ W H ⟨rngL lo n, []⟩ (Itr lo n) := by
  have w := walk_range (lo := lo) (n := n)
  refine ⟨fun _ => True, YFn fun i => .int (lo + i), by show Walk _ (rngL lo n).length _ _; rw [rngL_len]; exact w, fun _ _ _ _ _ _ => trivial, fun i y H' Z' W ψ M H L hi hy => ?_⟩
  obtain ⟨rfl, rfl⟩ := hy
  exact ⟨_, rngL_at (by simpa [rngL_len] using hi), L.rel, Ext.refl _ _, .int _⟩
theorem ir_rngC {lo c : Int} {n : Nat} : IR G Z φ W H ⟨rngC lo c n, []⟩ (Itc lo c n) := by
  have w := walk_rangeC (lo := lo) (c := c) (n := n)
  refine ⟨fun _ => True, YFn fun i => .int (lo + (i : Nat) * c), by show Walk _ (rngC lo c n).length _ _; rw [rngC_len]; exact w, fun _ _ _ _ _ _ => trivial, fun i y H' Z' W ψ M H L hi hy => ?_⟩
  obtain ⟨rfl, rfl⟩ := hy
  exact ⟨_, rngC_at (by simpa [rngC_len] using hi), L.rel, Ext.refl _ _, .int _⟩
end
section
variable {X : Cx} {E : WX} {tg a b c e : Expr} {f g k : SE} {l : SL} {pos p : Pos}
theorem gi_rng1 (hg : Gl X "range") (hm : X.mg "range" = none) (hs : starEach [a] X.env = [(false, eval a X.env)]) (hl : GL X E [a] l) (h1 : ∀ env M avs M', l env M = .ok avs M' → avs.length = 1) : GI X E tg (.Call (.Name "range" p) [a] [] pos) (sRng l) :=
  PI.imp (pi_range1 hg hm hl hs) fun σ H Q ⟨W, Z, φ, env, M, R, Er, h⟩ => ⟨W, Z, φ, env, M, R, Er, (RunI.bind h).imp fun vs H1 ⟨W1, M1, avs, e, R1, x1, r1, h2⟩ => by
    have ln := h1 _ _ _ _ e
    unfold rngItm at h2
    split at h2
    · rename_i it e2
      split at e2
      · split at e2
        · rename_i j hj
          cases e2
          obtain ⟨v, rfl, r⟩ := r1.one
          cases r
          exact ⟨j, rfl, (small62_ok hj).1, (small62_ok hj).2, IR.run R1 h2 ir_rng⟩
        · cases e2
      · cases ln
      · cases ln
      · cases e2
    · exact h2.elim⟩
theorem gi_rng2 (hg : Gl X "range") (hm : X.mg "range" = none) (hs : starEach [a, b] X.env = [(false, eval a X.env), (false, eval b X.env)]) (hs2 : starEach [b] X.env = [(false, eval b X.env)]) (hl : GL X E [a, b] l) (h1 : ∀ env M avs M', l env M = .ok avs M' → avs.length = 2) :
    GI X E tg (.Call (.Name "range" p) [a, b] [] pos) (sRng l) :=
  PI.imp (pi_range2 hg hm hl hs hs2) fun σ H Q ⟨W, Z, φ, env, M, R, Er, h⟩ => ⟨W, Z, φ, env, M, R, Er, (RunI.bind h).imp fun vs H1 ⟨W1, M1, avs, e, R1, x1, r1, h2⟩ => by
    have ln := h1 _ _ _ _ e
    unfold rngItm at h2
    split at h2
    · rename_i it e2
      split at e2
      · cases ln
      · split at e2
        · rename_i i j hj
          cases e2
          obtain ⟨v, u, rfl, r, r'⟩ := r1.two
          cases r; cases r'
          rw [Bool.and_eq_true] at hj
          exact ⟨i, j, rfl, ⟨(small62_ok hj.1).1, (small62_ok hj.1).2, (small62_ok hj.2).1, (small62_ok hj.2).2⟩, IR.run R1 h2 ir_rng⟩
        · cases e2
      · cases ln
      · cases e2
    · exact h2.elim⟩
theorem SRs.three {G : Gm} {B : Addr → Prop} {φ : List Addr} {H : Hp} {a b c : AV} {vs : List V} (r : SRs G B φ H [a, b, c] vs) : ∃ v u w, vs = [v, u, w] ∧ SR G B φ H a v ∧ SR G B φ H b u ∧ SR G B φ H c w := by
  match vs, r with
  | [v, u, w], ⟨h, h2, h3, _⟩ => exact ⟨v, u, w, rfl, h, h2, h3⟩
theorem gi_rng3 (hp : ∀ {t : TA}, PA X [a, b, c] t → PI X tg (.Call (.Name "range" p) [a, b, c] [] pos) (iRng3 t)) (hl : GL X E [a, b, c] l) (h1 : ∀ env M avs M', l env M = .ok avs M' → avs.length = 3) :
    GI X E tg (.Call (.Name "range" p) [a, b, c] [] pos) (sRng l) :=
  PI.imp (hp hl) fun σ H Q ⟨W, Z, φ, env, M, R, Er, h⟩ => ⟨W, Z, φ, env, M, R, Er, (RunI.bind h).imp fun vs H1 ⟨W1, M1, avs, e, R1, x1, r1, h2⟩ => by
    have ln := h1 _ _ _ _ e
    unfold rngItm at h2
    split at h2
    · rename_i it e2
      split at e2
      · cases ln
      · cases ln
      · obtain ⟨v, u, w, rfl, r, r', r''⟩ := r1.three
        cases r; cases r'; cases r''
        split at e2
        · rename_i hc
          subst hc
          split at e2
          · rename_i hj
            cases e2
            rw [Bool.and_eq_true] at hj
            exact ⟨_, _, _, _, rfl, .neg (small62_ok hj.1).1 (small62_ok hj.1).2 (small62_ok hj.2).1 (small62_ok hj.2).2, IR.run R1 h2 ir_rngC⟩
          · cases e2
        · split at e2
          · rename_i hc
            cases e2
            exact ⟨_, _, _, _, rfl, hc, IR.run R1 h2 ir_rngC⟩
          · cases e2
      · cases e2
    · exact h2.elim⟩
end
/-! ### enumerate, zip -/
def enumL : Nat → List D → List D
  | _, [] => []
  | k, x :: r => .tup [.int k, x] :: enumL (k + 1) r
def zipL : List D → List D → List D
  | x :: r, y :: s => .tup [x, y] :: zipL r s
  | _, _ => []
theorem enumL_at : ∀ {xs : List D} {k i : Nat} {x : D}, xs[i]? = some x → (enumL k xs)[i]? = some (.tup [.int ((k + i : Nat) : Int), x])
  | [], _, _, _, h => by simp at h
  | _ :: _, k, 0, _, h => by simp at h; subst h; rfl
  | _ :: r, k, i + 1, x, h => by
    have ih := enumL_at (xs := r) (k := k + 1) (i := i) (x := x) (by simpa using h)
    have e : k + 1 + i = k + (i + 1) := by omega
    rw [e] at ih
    simpa [enumL] using ih
theorem enumL_len : ∀ (xs : List D) (k : Nat), (enumL k xs).length = xs.length
  | [], _ => rfl
  | _ :: r, k => by simp [enumL, enumL_len r (k + 1)]
theorem zipL_at : ∀ {xs ys : List D} {i : Nat} {x y : D}, xs[i]? = some x → ys[i]? = some y → (zipL xs ys)[i]? = some (.tup [x, y])
  | [], _, _, _, _, h, _ => by simp at h
  | _ :: _, [], _, _, _, _, h => by simp at h
  | _ :: _, _ :: _, 0, _, _, h, h' => by simp at h h'; subst h; subst h'; rfl
  | _ :: r, _ :: s, i + 1, x, y, h, h' => by simpa [zipL] using zipL_at (xs := r) (ys := s) (i := i) (x := x) (y := y) (by simpa using h) (by simpa using h')
theorem zipL_len : ∀ (xs ys : List D), (zipL xs ys).length = min xs.length ys.length
  | [], _ => by simp [zipL]
  | _ :: _, [] => by simp [zipL]
  | _ :: r, _ :: s => by simp [zipL, zipL_len r s]
def enumItm (M : Mem) : List AV → Option Itm
  | [x] => match lstOf M x with
    | some xs => some ⟨enumL 0 xs, depOf x xs⟩
    | none => none
  | _ => none
def zipItm (M : Mem) : List AV → Option Itm
  | [x, y] => match lstOf M x, lstOf M y, tupOf x, tupOf y with
    | some xs, some ys, _, _ => some ⟨zipL xs ys, depOf x xs ++ depOf y ys⟩
    | none, none, some xs, some ys => some ⟨zipL xs ys, []⟩
    | _, _, _, _ => none
  | _ => none
def sItm (op : Mem → List AV → Option Itm) (l : SL) : SI := fun env M => (l env M).bind fun avs M1 => match op M1 avs with
  | some it => .ok it M1
  | none => .bad
theorem walk_enumA {K : PySem.W.Frag} {a : Addr} {n : Nat} : Walk (Ite K a) n (fun H => ∃ vs, SqL K H a vs ∧ vs.length = n)
    (fun i H v H' => ∃ T x, v = .ref T ∧ H T = none ∧ H' = upd H T (.tup [.int (i : Nat), x]) ∧ ∀ vs, SqL K H a vs → vs[i]? = some x) :=
  ⟨fun i H hi ⟨vs, q, e⟩ => ⟨vs, vs[i]'(by omega), q, by simp [e, hi]⟩, fun H ⟨vs, q, e⟩ => ⟨vs, q, by omega⟩, fun _ _ _ _ _ _ y => y⟩
theorem walk_zipL {K : PySem.W.Frag} {a b : Addr} {n m : Nat} : Walk (Itz K a b) (min n m) (fun H => ∃ vs us, SqL K H a vs ∧ SqL K H b us ∧ vs.length = n ∧ us.length = m)
    (fun i H v H' => ∃ T x y, v = .ref T ∧ H T = none ∧ H' = upd H T (.tup [x, y]) ∧ (∀ vs, SqL K H a vs → vs[i]? = some x) ∧ ∀ us, SqL K H b us → us[i]? = some y) :=
  ⟨fun i H hi ⟨vs, us, q, q2, e, e2⟩ => ⟨vs, us, vs[i]'(by omega), us[i]'(by omega), q, q2, by simp [show i < vs.length by omega], by simp [show i < us.length by omega]⟩,
    fun H ⟨vs, us, q, q2, e, e2⟩ => ⟨vs, us, q, q2, by omega⟩, fun _ _ _ _ _ _ y => y⟩
theorem walk_zipT {K : PySem.W.Frag} {a b : Addr} {n m : Nat} : Walk (RZ.ItzT K a b) (min n m) (fun H => ∃ vs us, SqT K H a vs ∧ SqT K H b us ∧ vs.length = n ∧ us.length = m)
    (fun i H v H' => ∃ T x y, v = .ref T ∧ H T = none ∧ H' = upd H T (.tup [x, y]) ∧ (∀ vs, SqT K H a vs → vs[i]? = some x) ∧ ∀ us, SqT K H b us → us[i]? = some y) :=
  ⟨fun i H hi ⟨vs, us, q, q2, e, e2⟩ => ⟨vs, us, vs[i]'(by omega), us[i]'(by omega), q, q2, by simp [show i < vs.length by omega], by simp [show i < us.length by omega]⟩,
    fun H ⟨vs, us, q, q2, e, e2⟩ => ⟨vs, us, q, q2, by omega⟩, fun _ _ _ _ _ _ y => y⟩
section
variable {G : Gm} {W Z B : Addr → Prop} {φ : List Addr} {H : Hp} {M : Mem}
/-- a new pair -/
theorem pair_new {x y : D} {v u : V} {T : Addr} (R : Rel G W Z φ M H) (hT : H T = none) (r1 : RD G (Bar W Z) H x v) (r2 : RD G (Bar W Z) H y u) :
    Rel G W Z φ M (upd H T (.tup [v, u])) ∧ Ext W H W (upd H T (.tup [v, u])) ∧ RD G (Bar W Z) (upd H T (.tup [v, u])) (.tup [x, y]) (.ref T) := by
  have x1 := Ext.laid R (o := .tup [v, u]) hT
  exact ⟨R.laid0 hT, x1, .tup (.inl ⟨upd_same, fun z => z.elim (fun z => R.wt T z hT) fun z => R.zt T z hT⟩) (.cons (r1.ext x1.bar) (.cons (r2.ext x1.bar) .nil))⟩
end
section
variable {X : Cx} {E : WX} {a b c e : Expr} {es : List Expr} {f g k : SE} {l : SL} {pos p tpos : Pos} {kk : Nat}
theorem gi_enum (hg : Gl X "enumerate") (hm : X.mg "enumerate" = none) (hs : starEach [a] X.env = [(false, eval a X.env)]) (hl : GL X E [a] l) : GI X E (.Tuple es kk tpos) (.Call (.Name "enumerate" p) [a] [] pos) (sItm enumItm l) :=
  PI.imp (pi_enum hg hm hl hs) fun σ H Q ⟨W, Z, φ, env, M, R, Er, h⟩ => ⟨W, Z, φ, env, M, R, Er, (RunI.bind h).imp fun vs H1 ⟨W1, M1, avs, e, R1, x1, r1, h2⟩ => by
    unfold enumItm at h2
    split at h2
    · rename_i it e2
      split at e2
      · obtain ⟨v, rfl, r⟩ := r1.one
        split at e2
        · rename_i xs el
          cases e2
          obtain ⟨p, rfl, ⟨vs, hq⟩, hL⟩ := lst_later R1 r el
          refine ⟨p, vs, rfl, hq, IR.run R1 h2 ⟨_, _, walk_enumA, fun Z' W ψ M H L => ?_, fun i y H' Z' W ψ M H L hi hy => ?_⟩⟩
          · obtain ⟨vs, h1, h2⟩ := hL _ Z' W ψ M H (fun _ z => z) L
            exact ⟨vs, h1, by rw [← h2.length]; exact (enumL_len xs 0).symm⟩
          · obtain ⟨vs, h1, h2⟩ := hL _ Z' W ψ M H (fun _ z => z) L
            obtain ⟨T, u, rfl, hT, rfl, hy⟩ := hy
            have hy := hy vs h1
            have hi : i < xs.length := by simpa [enumL_len] using hi
            obtain ⟨w, e1, r1⟩ := h2.get (show xs[i]? = some xs[i] by simp [hi])
            rw [hy] at e1; cases e1
            obtain ⟨p1, p2, p3⟩ := pair_new L.rel hT (.int (i : Int)) r1
            refine ⟨_, enumL_at (show xs[i]? = some xs[i] by simp [hi]), p1, p2, ?_⟩
            rw [Nat.zero_add]
            exact p3
        · cases e2
      · cases e2
    · exact h2.elim⟩
theorem gi_zip (hg : Gl X "zip") (hm : X.mg "zip" = none) (hp : ∀ {t : TA}, PA X [a, b] t → PI X (.Tuple es kk tpos) (.Call (.Name "zip" p) [a, b] [] pos) (RZ.iZipA X.K t)) (hl : GL X E [a, b] l) : GI X E (.Tuple es kk tpos) (.Call (.Name "zip" p) [a, b] [] pos) (sItm zipItm l) :=
  PI.imp (hp hl) fun σ H Q ⟨W, Z, φ, env, M, R, Er, h⟩ => ⟨W, Z, φ, env, M, R, Er, (RunI.bind h).imp fun vs H1 ⟨W1, M1, avs, e, R1, x1, r1, h2⟩ => by
    unfold zipItm at h2
    split at h2
    · rename_i it e2
      split at e2
      · obtain ⟨v, u, rfl, r, r'⟩ := r1.two
        split at e2
        · rename_i xs ys el el'
          cases e2
          obtain ⟨p, rfl, ⟨vs, hq⟩, hL⟩ := lst_later R1 r el
          obtain ⟨q, rfl, ⟨us, hq'⟩, hL'⟩ := lst_later R1 r' el'
          refine ⟨p, q, vs, us, rfl, .inl ⟨hq, hq', IR.run R1 h2 ⟨_, _, by show Walk _ (zipL xs ys).length _ _; rw [zipL_len]; exact walk_zipL, fun Z' W ψ M H L => ?_, fun i y H' Z' W ψ M H L hi hy => ?_⟩⟩⟩
          · obtain ⟨vs, h1, h2⟩ := hL _ Z' W ψ M H (fun _ z => List.mem_append_left _ z) L
            obtain ⟨us, h3, h4⟩ := hL' _ Z' W ψ M H (fun _ z => List.mem_append_right _ z) L
            exact ⟨vs, us, h1, h3, h2.length.symm, h4.length.symm⟩
          · obtain ⟨vs, h1, h2⟩ := hL _ Z' W ψ M H (fun _ z => List.mem_append_left _ z) L
            obtain ⟨us, h3, h4⟩ := hL' _ Z' W ψ M H (fun _ z => List.mem_append_right _ z) L
            obtain ⟨T, x, y, rfl, hT, rfl, hy, hy'⟩ := hy
            have hy := hy vs h1
            have hy' := hy' us h3
            have hi : i < min xs.length ys.length := by simpa [zipL_len] using hi
            have e1 : xs[i]? = some (xs[i]'(by omega)) := by simp [show i < xs.length by omega]
            have e2 : ys[i]? = some (ys[i]'(by omega)) := by simp [show i < ys.length by omega]
            obtain ⟨w, f1, r1⟩ := h2.get e1
            obtain ⟨w', f2, r2⟩ := h4.get e2
            rw [hy] at f1; cases f1
            rw [hy'] at f2; cases f2
            obtain ⟨p1, p2, p3⟩ := pair_new L.rel hT r1 r2
            exact ⟨_, zipL_at e1 e2, p1, p2, p3⟩
        · rename_i xs ys _ _ et et'
          cases e2
          obtain ⟨p, vs, rfl, t1, d1⟩ := tup_met r et
          obtain ⟨q, us, rfl, t2, d2⟩ := tup_met r' et'
          refine ⟨p, q, vs, us, rfl, .inr ⟨t1.sq, t2.sq, IR.run R1 h2 ⟨_, _, by show Walk _ (zipL xs ys).length _ _; rw [zipL_len]; exact walk_zipT, fun Z' W ψ M H L => ?_, fun i y H' Z' W ψ M H L hi hy => ?_⟩⟩⟩
          · exact ⟨vs, us, (t1.ext L.rd).sq, (t2.ext L.rd).sq, d1.length.symm, d2.length.symm⟩
          · obtain ⟨T, x, y, rfl, hT, rfl, hy, hy'⟩ := hy
            have hy := hy vs (t1.ext L.rd).sq
            have hy' := hy' us (t2.ext L.rd).sq
            have hi : i < min xs.length ys.length := by simpa [zipL_len] using hi
            have e1 : xs[i]? = some (xs[i]'(by omega)) := by simp [show i < xs.length by omega]
            have e2 : ys[i]? = some (ys[i]'(by omega)) := by simp [show i < ys.length by omega]
            obtain ⟨w, f1, r1⟩ := (d1.ext L.rd).get e1
            obtain ⟨w', f2, r2⟩ := (d2.ext L.rd).get e2
            rw [hy] at f1; cases f1
            rw [hy'] at f2; cases f2
            obtain ⟨p1, p2, p3⟩ := pair_new L.rel hT r1 r2
            exact ⟨_, zipL_at e1 e2, p1, p2, p3⟩
        · cases e2
      · cases e2
    · exact h2.elim⟩
end
end Mp

namespace Mp
open PySem L2

/-! ## list comprehensions -/
def wipeE (env : Env) : List Nat → Env
  | [] => env
  | v :: vs => (wipeE env vs).set v none
def compL (elt : SE) (cond : SB) (tg : Tg) (vs : List Nat) (deps : List (Nat × List D)) (env : Env) : List D → List D → Mem → Out AV
  | [], acc, M => if depsOk M deps = true then .ok (.fr acc) M else .bad
  | d :: r, acc, M => if depsOk M deps = true then
      match tg.bind d (wipeE env vs) with
      | none => .bad
      | some env' => match cond env' M with
        | .ok true M1 => match elt env' M1 with
          | .ok av M2 => match keepD av M2 with
            | some (x, M3) => if acc.length < sizeLine then compL elt cond tg vs deps env r (acc ++ [x]) M3 else .bad
            | none => .bad
          | _ => .bad
        | .ok false M1 => compL elt cond tg vs deps env r acc M1
        | _ => .bad
    else .bad
def sComp (it : SI) (tg : Tg) (cond : SB) (elt : SE) (vs : List Nat) : SE := fun env M => (it env M).bind fun itm M1 => compL elt cond tg vs itm.deps env itm.items [] M1
def sYes : SB := fun _ M => .ok true M
abbrev FW : WX := fun _ _ _ _ => False

theorem wipe_in {σ : St} {i : Nat} : ∀ {vs : List Nat}, i ∈ vs → i < σ.length → (wipe σ vs)[i]? = some none
  | v :: vs, h, hi => by
    unfold wipe
    by_cases e : v = i
    · subst e
      exact List.getElem?_set_self (by rw [wipe_length]; exact hi)
    · rw [List.getElem?_set_ne e]
      rcases List.mem_cons.mp h with h | h
      · exact absurd h.symm e
      · exact wipe_in h hi
theorem wipe_same {σ σ' : St} {vs : List Nat} (hl : σ'.length = σ.length) (h : ∀ j, j ∉ vs → σ'[j]? = σ[j]?) : wipe σ' vs = wipe σ vs := by
  apply List.ext_getElem?
  intro i
  by_cases hi : i ∈ vs
  · by_cases hl' : i < σ.length
    · rw [wipe_in hi hl', wipe_in hi (by omega)]
    · rw [List.getElem?_eq_none (by rw [wipe_length]; omega), List.getElem?_eq_none (by rw [wipe_length]; omega)]
  · rw [wipe_out hi, wipe_out hi]
    exact h i hi
theorem EnvR.wipe {G : Gm} {B : Addr → Prop} {φ : List Addr} {H : Hp} {env : Env} {σ : St} (h : EnvR G B φ H env σ) : ∀ vs : List Nat, EnvR G B φ H (wipeE env vs) (L2.wipe σ vs)
  | [] => h
  | v :: vs => by
    have ih := EnvR.wipe h vs
    refine ⟨by unfold wipeE L2.wipe; rw [List.length_set, List.length_set]; exact ih.len, fun i av e => ?_⟩
    unfold wipeE at e
    unfold L2.wipe
    by_cases hv : v = i
    · subst hv
      by_cases hi : v < (wipeE env vs).length
      · rw [List.getElem?_set_self hi] at e; cases e
      · rw [List.getElem?_eq_none (by rw [List.length_set]; omega)] at e; cases e
    · rw [List.getElem?_set_ne hv] at e
      obtain ⟨u, e1, r⟩ := ih.at_ i av e
      exact ⟨u, by rw [List.getElem?_set_ne hv]; exact e1, r⟩
theorem Tg.bind_cons {a b : Tg} {d : D} {env env' : Env} (h : (Tg.cons a b).bind d env = some env') : ∃ x r e, d = .tup (x :: r) ∧ a.bind x env = some e ∧ b.bind (.tup r) e = some env' := by
  cases d with
  | tup xs =>
    cases xs with
    | nil => cases h
    | cons x r =>
      unfold Tg.bind at h
      cases e1 : a.bind x env with
      | none => rw [e1] at h; cases h
      | some e => rw [e1] at h; exact ⟨x, r, e, rfl, e1, h⟩
  | _ => cases h
theorem Tg.bind_tup {a : Tg} {d : D} {env env' : Env} (h : (Tg.tup a).bind d env = some env') : ∃ r, d = .tup r ∧ a.bind (.tup r) env = some env' := by
  cases d with
  | tup xs => exact ⟨xs, rfl, h⟩
  | _ => cases h
theorem Tg.bind_nil {d : D} {env env' : Env} (h : Tg.nil.bind d env = some env') : d = .tup [] ∧ env' = env := by
  cases d with
  | tup xs =>
    cases xs with
    | nil => cases h; exact ⟨rfl, rfl⟩
    | cons x r => cases h
  | _ => cases h
theorem Tg.len : ∀ {t : Tg} {d : D} {env env' : Env}, t.bind d env = some env' → env'.length = env.length
  | .name i, d, env, env', h => by cases h; simp
  | .nil, d, env, env', h => by rw [(Tg.bind_nil h).2]
  | .cons a b, d, env, env', h => by
    obtain ⟨x, r, e, rfl, h1, h2⟩ := Tg.bind_cons h
    rw [Tg.len h2, Tg.len h1]
  | .tup a, d, env, env', h => by
    obtain ⟨r, rfl, h1⟩ := Tg.bind_tup h
    exact Tg.len h1
theorem wipeE_len (env : Env) : ∀ vs : List Nat, (wipeE env vs).length = env.length
  | [] => rfl
  | v :: vs => by unfold wipeE; rw [List.length_set, wipeE_len env vs]

section
variable {G : Gm} {W W' Z B B' : Addr → Prop} {φ : List Addr} {H H' : Hp} {M : Mem} {D : Addr} {o : HO}
/-- a barred object changes -/
theorem Ext.updBar (x : Ext B H B' H') (hb : B D) : Ext B H B' (upd H' D o) :=
  ⟨fun a u e n => ⟨by rw [upd_ne fun z => n (by rw [z]; exact hb)]; exact (x.keep a u e n).1, (x.keep a u e n).2⟩, fun a e => by
    by_cases z : a = D
    · rw [z, upd_same]; simp
    · rw [upd_ne z]; exact x.live a e⟩
theorem Ext.updNew (x : Ext B H B' H') (hn : H D = none) : Ext B H B' (upd H' D o) :=
  ⟨fun a u e n => ⟨by rw [upd_ne (ne_of_none e hn)]; exact (x.keep a u e n).1, (x.keep a u e n).2⟩, fun a e => by
    by_cases z : a = D
    · rw [z, upd_same]; simp
    · rw [upd_ne z]; exact x.live a e⟩
theorem Rel.updBar (R : Rel G W Z φ M H) (hz : Z D) : Rel G W Z φ M (upd H D o) := by
  have lv : ∀ a, H a ≠ none → upd H D o a ≠ none := fun a e => by
    by_cases z : a = D
    · rw [z, upd_same]; simp
    · rw [upd_ne z]; exact e
  refine ⟨R.len, R.nd, fun a w => lv a (R.wt a w), fun a z => lv a (R.zt a z), fun i p e => ⟨lv p (R.sep i p e).1, (R.sep i p e).2⟩, fun i p c e1 e2 => ?_⟩
  obtain ⟨w, r⟩ := R.cell i p c e1 e2
  have hp : p ≠ D := fun z => (R.sep i p e1).2 (by rw [z]; exact hz)
  exact ⟨w, r.ext (Ext.updBar (Ext.refl _ _) (.inr hz)) (upd_ne hp)⟩
end
theorem compL_deps {elt : SE} {cond : SB} {tg : Tg} {vs : List Nat} {deps : List (Nat × List D)} {env : Env} {M : Mem} (h : ¬ depsOk M deps = true) : ∀ (r acc : List D), compL elt cond tg vs deps env r acc M = .bad
  | [], _ => by unfold compL; rw [if_neg h]
  | _ :: _, _ => by unfold compL; rw [if_neg h]
theorem lc_read {G : Gm} {fi : SI} {t : Tg} {cond : SB} {fe : SE} {vs : List Nat} {E : WX} (hsl : ∀ j ∈ t.slots, j ∈ vs) (σ : St) (H : Hp) (Q : VK) (hh : rdE G (sComp fi t cond fe vs) E σ H Q) :
    tLc (rdI G fi E) (rdT G t) (rdB G cond FW) (rdE G fe FW) vs σ H Q := by
  obtain ⟨W, Z, φ, env, M, R, Er, h⟩ := hh
  refine ⟨W, Z, φ, env, M, R, Er, (Run.bind h).imp fun J H1 ⟨W1, M1, itm, e, R1, x1, ⟨Gd, Y, w, hG, hY⟩, h2⟩ => ?_⟩
  intro D hD
  have R1' := R1.laid (o := .lst []) hD
  refine lc_it w (fun i H' => ∃ Wi Mi acc us, Rel G Wi (add1 Z D) φ Mi H' ∧ Ext W1 H1 Wi H' ∧ H' D = some (.lst us) ∧ ¬ Bar Wi Z D ∧ RDs G (Bar Wi (add1 Z D)) H' acc us ∧
    Run G Z φ W1 H1 (compL fe cond t vs itm.deps env (itm.items.drop i) acc Mi) Q fun c d H' => E c d σ H') ?_ ?_ ?_ ?_
  · exact ⟨W1, M1, [], [], R1', Ext.laid R1 hD, upd_same, fun z => z.elim (fun z => R1.wt D z hD) fun z => R1.zt D z hD, .nil, h2⟩
  · rintro i H' _ ⟨Wi, Mi, acc, us, Ri, xi, hDi, nb, ra, hr⟩
    refine hG (add1 Z D) Wi [] Mi H' ⟨fun a z => z.imp id fun z => by rw [z]; exact hD, by simpa using Ri, xi, ?_⟩
    by_cases q : depsOk Mi itm.deps = true
    · exact q
    · rw [compL_deps q] at hr; exact hr.elim
  · rintro i x H' H'' hi ⟨Wi, Mi, acc, us, Ri, xi, hDi, nb, ra, hr⟩ hy
    by_cases q : depsOk Mi itm.deps = true
    · have L : Later G Z φ W1 H1 itm.deps (add1 Z D) Wi [] Mi H' := ⟨fun a z => z.imp id fun z => by rw [z]; exact hD, by simpa using Ri, xi, q⟩
      obtain ⟨d, hd, R2, x2, rd⟩ := hY i x H'' _ _ _ _ _ L hi hy
      rw [List.append_nil] at R2
      have ed : itm.items.drop i = d :: itm.items.drop (i + 1) := by
        obtain ⟨hl, e1⟩ := List.getElem?_eq_some_iff.mp hd
        rw [← e1]
        exact List.drop_eq_getElem_cons hl
      rw [ed] at hr
      unfold compL at hr
      rw [if_pos q] at hr
      cases eb : t.bind d (wipeE env vs) with
      | none => rw [eb] at hr; exact hr.elim
      | some env' =>
        rw [eb] at hr
        have L2' : Later G Z φ W1 H1 itm.deps (add1 Z D) Wi [] Mi H'' := ⟨L.bar, by simpa using R2, xi.trans x2, q⟩
        have Erw : EnvR G (Bar Wi (add1 Z D)) φ H'' (wipeE env vs) (wipe σ vs) := ((Er.ext x1.bar).ext L2'.rd).wipe vs
        refine ⟨Wi, add1 Z D, φ, wipeE env vs, Mi, d, env', R2, Erw, rd, eb, fun σ2 Er2 s2 => ⟨?_, ?_⟩⟩
        · have e1 : wipe (wipe σ vs) vs = wipe σ vs := wipe_same (wipe_length _ _) fun j hj => wipe_out hj
          rw [← e1]
          refine wipe_same ?_ fun j hj => s2 j fun z => hj (hsl j z)
          rw [← Er2.len, Tg.len eb, Erw.len]
        · refine ⟨Wi, add1 Z D, φ, env', Mi, R2, Er2, ?_⟩
          dsimp only at hr
          cases ec : cond env' Mi with
          | bad => rw [ec] at hr; exact hr.elim
          | exc _ _ => rw [ec] at hr; exact hr.elim
          | ok b M2 =>
            rw [ec] at hr
            intro W2 H3 b' R3 x3 eb'
            subst eb'
            have hD3 : H3 D = some (.lst us) := (x3.keep D _ (x2.keep D _ hDi fun z => nb (.inl z)).1 (x2.keep D _ hDi fun z => nb (.inl z)).2).1
            have nD3 : ¬ W2 D := (x3.keep D _ (x2.keep D _ hDi fun z => nb (.inl z)).1 (x2.keep D _ hDi fun z => nb (.inl z)).2).2
            have nZ : ¬ Z D := fun z => nb (.inr z)
            cases b with
            | false =>
              rw [if_neg Bool.false_ne_true]
              exact ⟨W2, M2, acc, us, R3, (xi.trans x2).trans x3, hD3, fun z => z.elim nD3 nZ, (ra.ext x2.bar).ext x3.bar, hr⟩
            | true =>
              rw [if_pos rfl]
              refine ⟨W2, add1 Z D, φ, env', M2, R3, Er2.ext x3.bar, ?_⟩
              dsimp only at hr
              cases ee : fe env' M2 with
              | bad => rw [ee] at hr; exact hr.elim
              | exc _ _ => rw [ee] at hr; exact hr.elim
              | ok av M3 =>
                rw [ee] at hr
                intro W3 H4 y R4 x4 vr
                dsimp only at hr
                cases ek : keepD av M3 with
                | none => rw [ek] at hr; exact hr.elim
                | some xM =>
                  obtain ⟨d', M4⟩ := xM
                  rw [ek] at hr
                  dsimp only at hr
                  split at hr
                  · rename_i hlt
                    obtain ⟨W4, R5, l4, rd'⟩ := keep_ok R4 vr.sr ek
                    have hD4 := x4.keep D _ hD3 nD3
                    refine ⟨us, hD4.1, ?_, W4, M4, acc ++ [d'], us ++ [y], R5.updBar (.inr rfl), ?_, upd_same, fun z => z.elim (fun z => hD4.2 (l4 D z)) nZ, ?_, hr⟩
                    · rw [← ra.length]; exact hlt
                    · exact Ext.updNew (((xi.trans x2).trans x3).trans (x4.trans (Ext.less l4))) hD
                    · refine RDs.append ?_ (.cons ?_ .nil)
                      · exact ((ra.ext x2.bar).ext x3.bar).ext (Ext.updBar (x4.trans (Ext.less l4)).bar (.inr (.inr rfl)))
                      · exact rd'.ext (Ext.updBar (Ext.refl _ _) (.inr (.inr rfl)))
                  · exact hr.elim
    · rw [compL_deps q] at hr; exact hr.elim
  · rintro H' ⟨Wi, Mi, acc, us, Ri, xi, hDi, nb, ra, hr⟩
    rw [List.drop_length] at hr
    unfold compL at hr
    split at hr
    · refine hr Wi H' (.ref D) Ri.unbar xi ⟨D, us, rfl, hD, hDi, nb, ra.less fun a z => ?_, Ri⟩
      rcases z with (z | z) | z
      · exact .inl z
      · exact .inr (.inl z)
      · exact .inr (.inr z)
    · exact hr.elim
section
variable {X : Cx} {E : WX} {elt tgE iter : Expr} {ifs : List Expr} {fi : SI} {t : Tg} {cond : SB} {fe : SE} {scope : Scope} {own : List (Str × Nat)} {pos : Pos}
theorem gts_nil {Y : Cx} {E : WX} : PTs Y [] (rdB (gm Y) sYes E) := ⟨fun pins s σ H Q I ⟨W, Z, φ, env, M, R, Er, h⟩ => pts_nil.run pins s σ H Q I (RunB.ok R h)⟩
theorem gts_one {Y : Cx} {E : WX} {c : Expr} {p : SB} (h : GB Y E c p) : PTs Y [c] (rdB (gm Y) p E) := pts_one h
theorem ge_comp (hc : X.calm = true) (hN : X.N.Nodup) (hi : GI X E tgE iter fi) (ok : BlkOk X.N X.env.scope scope own)
    (hg : ∀ (s : Shared) (H : Hp) (C : Addr) (cl : List (Str × Addr)) (fp : List Addr), PG (X.blk s H scope (compEnvC scope cl C X.env) fp) tgE (rdT (gm X) t))
    (ht : ∀ (s : Shared) (H : Hp) (C : Addr) (cl : List (Str × Addr)) (fp : List Addr), PTs (X.blk s H scope (compEnvC scope cl C X.env) fp) ifs (rdB (gm X) cond FW))
    (he : ∀ (s : Shared) (H : Hp) (C : Addr) (cl : List (Str × Addr)) (fp : List Addr), GE (X.blk s H scope (compEnvC scope cl C X.env) fp) FW elt fe)
    (hs : ∀ x, foldedSetIterable iter X.env x = pure x) (hsl : ∀ j ∈ t.slots, j ∈ own.map (·.2)) : GE X E (.ListComp elt [⟨tgE, iter, ifs, 0⟩] scope pos) (sComp fi t cond fe (own.map (·.2))) :=
  PE.imp (pe_lc hc hN hi ok hg ht he hs) fun σ H Q h => lc_read hsl σ H Q h
end
end Mp

namespace Mp
open PySem L2

/-! ## statements -/
inductive Fl where
  | next (e : Env) | ret (v : AV) | brk (e : Env) | cont (e : Env)
abbrev SS := Env → Mem → Out Fl
structure Fin (G : Gm) (Z : Addr → Prop) (φ : List Addr) (W : Addr → Prop) (H : Hp) (M' : Mem) (W' : Addr → Prop) (ψ : List Addr) (H' : Hp) : Prop where
  rel : Rel G W' Z (φ ++ ψ) M' H'
  ext : Ext W H W' H'
  new : ∀ p ∈ ψ, H p = none
def RunS (G : Gm) (Z : Addr → Prop) (φ : List Addr) (W : Addr → Prop) (H : Hp) (n : Nat) (r : Out Fl) (D : Ends) (E : WX) : Prop :=
  match r with
  | .ok (.next e) M' => ∀ W' ψ H' σ', Fin G Z φ W H M' W' ψ H' → EnvR G (Bar W' Z) (φ ++ ψ) H' e σ' → σ'.length = n → D.nx σ' H'
  | .ok (.brk e) M' => ∀ W' ψ H' σ', Fin G Z φ W H M' W' ψ H' → EnvR G (Bar W' Z) (φ ++ ψ) H' e σ' → σ'.length = n → D.bk σ' H'
  | .ok (.cont e) M' => ∀ W' ψ H' σ', Fin G Z φ W H M' W' ψ H' → EnvR G (Bar W' Z) (φ ++ ψ) H' e σ' → σ'.length = n → D.ct σ' H'
  | .ok (.ret av) M' => ∀ W' ψ H' v, Fin G Z φ W H M' W' ψ H' → VR G W' Z (φ ++ ψ) H H' M' av v → D.rt v H'
  | .exc e M' => ∀ W' ψ H' c d σ', Fin G Z φ W H M' W' ψ H' → XR G (Bar W' Z) H' e c d → σ'.length = n → E c d σ' H'
  | .bad => False
def rdS (G : Gm) (f : SS) (E : WX) : TS := fun D σ H => ∃ W Z φ env M, Rel G W Z φ M H ∧ EnvR G (Bar W Z) φ H env σ ∧ RunS G Z φ W H σ.length (f env M) D E
abbrev GS (X : Cx) (E : WX) (st : Stmt) (f : SS) : Prop := PS X st (rdS (gm X) f E)
abbrev GSs (X : Cx) (E : WX) (st : List Stmt) (f : SS) : Prop := PSs X st (rdS (gm X) f E)

section
variable {G : Gm} {W W1 Z : Addr → Prop} {φ ψ : List Addr} {H H1 : Hp} {M M1 : Mem} {env : Env} {σ : St} {D : Ends} {E : WX} {n : Nat}
theorem Fin.refl (R : Rel G W Z φ M H) : Fin G Z φ W H M W [] H := ⟨by simpa using R, Ext.refl _ _, fun _ h => by cases h⟩
theorem Fin.trans {W' : Addr → Prop} {ψ' : List Addr} {H' : Hp} {M' : Mem} (a : Fin G Z φ W H M1 W1 ψ H1) (b : Fin G Z (φ ++ ψ) W1 H1 M' W' ψ' H') : Fin G Z φ W H M' W' (ψ ++ ψ') H' :=
  ⟨by rw [← List.append_assoc]; exact b.rel, a.ext.trans b.ext, fun p hp => (List.mem_append.mp hp).elim (a.new p) fun hp => a.ext.fresh (b.new p hp)⟩
theorem Fin.of {M' : Mem} (R : Rel G W1 Z φ M' H1) (x : Ext W H W1 H1) : Fin G Z φ W H M' W1 [] H1 := ⟨by simpa using R, x, fun _ h => by cases h⟩
theorem VR.back' {W' : Addr → Prop} {M' : Mem} {av : AV} {v : V} {H' : Hp} (h : VR G W' Z φ H1 H' M' av v) (x : ∀ p, H1 p = none → H p = none) : VR G W' Z φ H H' M' av v := by
  cases av with
  | fr xs => obtain ⟨p, vs, e, h0, r⟩ := h; exact ⟨p, vs, e, x p h0, r⟩
  | _ => exact h
theorem RunS.later {r : Out Fl} (h : RunS G Z φ W H n r D E) (x : Fin G Z φ W H M1 W1 ψ H1) : RunS G Z (φ ++ ψ) W1 H1 n r D E := by
  cases r with
  | bad => exact h
  | exc e M' => exact fun W' ψ' H' c d σ' f q l => h W' (ψ ++ ψ') H' c d σ' (x.trans f) q l
  | ok fl M' =>
    cases fl with
    | next e => exact fun W' ψ' H' σ' f q l => h W' (ψ ++ ψ') H' σ' (x.trans f) (by rw [← List.append_assoc]; exact q) l
    | brk e => exact fun W' ψ' H' σ' f q l => h W' (ψ ++ ψ') H' σ' (x.trans f) (by rw [← List.append_assoc]; exact q) l
    | cont e => exact fun W' ψ' H' σ' f q l => h W' (ψ ++ ψ') H' σ' (x.trans f) (by rw [← List.append_assoc]; exact q) l
    | ret av => exact fun W' ψ' H' v f q => h W' (ψ ++ ψ') H' v (x.trans f) (by rw [← List.append_assoc]; exact q.back' fun p e => x.ext.fresh e)
theorem RunS.later0 {r : Out Fl} (h : RunS G Z φ W H n r D E) (x : Ext W H W1 H1) : RunS G Z φ W1 H1 n r D E := by
  cases r with
  | bad => exact h
  | exc e M' => exact fun W' ψ' H' c d σ' f q l => h W' ψ' H' c d σ' ⟨f.rel, x.trans f.ext, fun p hp => x.fresh (f.new p hp)⟩ q l
  | ok fl M' =>
    cases fl with
    | next e => exact fun W' ψ' H' σ' f q l => h W' ψ' H' σ' ⟨f.rel, x.trans f.ext, fun p hp => x.fresh (f.new p hp)⟩ q l
    | brk e => exact fun W' ψ' H' σ' f q l => h W' ψ' H' σ' ⟨f.rel, x.trans f.ext, fun p hp => x.fresh (f.new p hp)⟩ q l
    | cont e => exact fun W' ψ' H' σ' f q l => h W' ψ' H' σ' ⟨f.rel, x.trans f.ext, fun p hp => x.fresh (f.new p hp)⟩ q l
    | ret av => exact fun W' ψ' H' v f q => h W' ψ' H' v ⟨f.rel, x.trans f.ext, fun p hp => x.fresh (f.new p hp)⟩ (q.back' fun p e => x.fresh e)
/-- an expression first, then the rest of a statement -/
theorem RunS.bind {α β : Type} {R : (Addr → Prop) → Hp → Mem → α → β → Prop} {r : Out α} {k : α → Mem → Out Fl} (h : RunS G Z φ W H n (r.bind k) D E) :
    RunG R G Z φ W H r (fun v H1 => ∃ W1 M1 a, r = .ok a M1 ∧ Rel G W1 Z φ M1 H1 ∧ Ext W H W1 H1 ∧ R W1 H1 M1 a v ∧ RunS G Z φ W1 H1 n (k a M1) D E) (fun c d H' => ∀ σ' : St, σ'.length = n → E c d σ' H') := by
  cases r with
  | ok a M' => exact fun W' H' v R1 y z => ⟨W', M', a, rfl, R1, y, z, RunS.later0 h y⟩
  | exc e M' => exact fun W' H' c d R1 y z σ' l => h W' [] H' c d σ' (Fin.of R1 y) z l
  | bad => exact h
theorem RunS.bind0 {α β : Type} {R : (Addr → Prop) → Hp → Mem → α → β → Prop} {r : Out α} {k : α → Mem → Out Fl} (h : RunS G Z φ W H n (r.bind k) D E) :
    RunG R G Z φ W H r (fun v H1 => ∃ W1 M1 a, r = .ok a M1 ∧ Rel G W1 Z φ M1 H1 ∧ Ext W H W1 H1 ∧ R W1 H1 M1 a v ∧ RunS G Z φ W H n (k a M1) D E) (fun c d H' => ∀ σ' : St, σ'.length = n → E c d σ' H') := by
  cases r with
  | ok a M' => exact fun W' H' v R1 y z => ⟨W', M', a, rfl, R1, y, z, h⟩
  | exc e M' => exact fun W' H' c d R1 y z σ' l => h W' [] H' c d σ' (Fin.of R1 y) z l
  | bad => exact h
theorem RunG.imp2 {α β : Type} {R : (Addr → Prop) → Hp → Mem → α → β → Prop} {r : Out α} {Q Q' : β → Hp → Prop} {E E' : XK} (h : RunG R G Z φ W H r Q E) (k : ∀ v H, Q v H → Q' v H) (k2 : ∀ c d H, E c d H → E' c d H) : RunG R G Z φ W H r Q' E' := by
  cases r with
  | ok a M' => exact fun W' H' v R y z => k _ _ (h W' H' v R y z)
  | exc e M' => exact fun W' H' c d R y z => k2 _ _ _ (h W' H' c d R y z)
  | bad => exact h
theorem RunS.next {e : Env} (R : Rel G W Z φ M H) (h : RunS G Z φ W H n (.ok (.next e) M) D E) (q : EnvR G (Bar W Z) φ H e σ) (l : σ.length = n) : D.nx σ H :=
  h W [] H σ (Fin.refl R) (by simpa using q) l
end

def sSkip : SS := fun env M => .ok (.next env) M
def sSeq2 (f g : SS) : SS := fun env M => (f env M).bind fun fl M1 => match fl with
  | .next e => g e M1
  | fl => .ok fl M1
def sRet (f : SE) : SS := fun env M => (f env M).bind fun x M1 => .ok (.ret x) M1
def sRetN : SS := fun _ M => .ok (.ret (.d .non)) M
def sExpr (f : SE) : SS := fun env M => (f env M).bind fun _ M1 => .ok (.next env) M1
def sIfS (c : SB) (f g : SS) : SS := fun env M => (c env M).bind fun b M1 => if b = true then f env M1 else g env M1
/-- a value stored in a name; m: a new list is to be changed later -/
def asgAV (i : Nat) (m : Bool) (x : AV) (env : Env) (M : Mem) : Env × Mem := match x, m with
  | .fr xs, true => (env.set i (some (.cell M.length)), M ++ [some (.l xs)])
  | x, _ => (env.set i (some x.settle), M)
def sAsg (i : Nat) (m : Bool) (f : SE) : SS := fun env M => (f env M).bind fun x M1 => .ok (.next (asgAV i m x env M1).1) (asgAV i m x env M1).2
def sAsgT (t : Tg) (f : SE) : SS := fun env M => (f env M).bind fun x M1 => match x with
  | .d d => match t.bind d env with
    | some e => .ok (.next e) M1
    | none => .bad
  | _ => .bad
def sBrk : SS := fun env M => .ok (.brk env) M
def sCont : SS := fun env M => .ok (.cont env) M

section
variable {G : Gm} {W W1 Z : Addr → Prop} {φ ψ : List Addr} {H H₀ H1 : Hp} {M M1 : Mem} {env : Env} {σ : St} {De : Ends} {E : WX} {n : Nat}
/-- a new list becomes a cell -/
theorem thaw {xs : List D} {v : V} (R : Rel G W Z φ M H) (r : VR G W Z φ H₀ H M (.fr xs) v) (x : ∀ a, H₀ a ≠ none → H a ≠ none) :
    ∃ p, v = .ref p ∧ H₀ p = none ∧ Rel G (add1 W p) Z (φ ++ [p]) (M ++ [some (.l xs)]) H ∧ ∀ a o, H₀ a = some o → ¬ W a → ¬ add1 W p a := by
  obtain ⟨p, vs, rfl, h0, hp, nb, rd, R2⟩ := r
  have hnp : ∀ i : Nat, φ[i]? ≠ some p := fun i e => (R2.sep i p e).2 (.inr rfl)
  have hb : ∀ a, Bar (add1 W p) Z a → Bar W (add1 Z p) a := fun a z => by
    rcases z with (z | z) | z
    · exact .inl z
    · exact .inr (.inr z)
    · exact .inr (.inl z)
  refine ⟨p, rfl, h0, ⟨by simp [R.len], ?_, fun a z => z.elim (R.wt a) fun z => by subst z; rw [hp]; simp, R.zt, fun i q e => ?_, fun i q c e1 e2 => ?_⟩, fun a o e n z => z.elim n fun z => by subst z; rw [h0] at e; cases e⟩
  · rw [List.nodup_append]
    refine ⟨R.nd, by simp, fun a ha b hb e => ?_⟩
    obtain ⟨i, hi⟩ := List.getElem?_of_mem ha
    simp at hb
    subst hb; subst e
    exact hnp i hi
  · by_cases hi : i < φ.length
    · rw [List.getElem?_append_left hi] at e
      exact R.sep i q e
    · rw [List.getElem?_append_right (by omega)] at e
      have hq : q = p := by
        cases h : i - φ.length with
        | zero => rw [h] at e; simpa using e.symm
        | succ k => rw [h] at e; simp at e
      subst hq
      exact ⟨by rw [hp]; simp, fun z => nb (.inr z)⟩
  · by_cases hi : i < φ.length
    · rw [List.getElem?_append_left hi] at e1
      rw [List.getElem?_append_left (by rw [← R.len]; exact hi)] at e2
      obtain ⟨w, r⟩ := R2.cell i q c e1 e2
      exact ⟨.inl w, r.ext (Ext.less hb) rfl⟩
    · rw [List.getElem?_append_right (by omega)] at e1
      rw [List.getElem?_append_right (by rw [← R.len]; omega), ← R.len] at e2
      cases h : i - φ.length with
      | zero =>
        rw [h] at e1 e2
        simp at e1 e2
        subst e1; subst e2
        refine ⟨.inr rfl, vs, hp, rd.less fun a z => ?_⟩
        rcases z with (z | z) | z
        · exact .inl (.inl z)
        · exact .inr z
        · exact .inl (.inr z)
      | succ k => rw [h] at e1; simp at e1
/-- storing a value -/
theorem asg_run {i : Nat} {m : Bool} {x : AV} {v : V} (R : Rel G W1 Z φ M1 H1) (Er : EnvR G (Bar W1 Z) φ H1 env σ) (r : VR G W1 Z φ H H1 M1 x v) (y : Ext W H W1 H1)
    (h : RunS G Z φ W H n (.ok (.next (asgAV i m x env M1).1) (asgAV i m x env M1).2) De E) (l : σ.length = n) (Er0 : EnvR G (Bar W Z) φ H env σ) : De.nx (σ.set i (some v)) H1 := by
  have plain : asgAV i m x env M1 = (env.set i (some x.settle), M1) → De.nx (σ.set i (some v)) H1 := fun e => by
    rw [e] at h
    exact h W1 [] H1 _ (Fin.of R y) (by simpa using Er.set r.sr.settle i) (by simpa using l)
  cases x with
  | fr xs =>
    cases m with
    | false => exact plain rfl
    | true =>
      obtain ⟨p, rfl, h0, R2, hk⟩ := thaw R r y.live
      have x2 : Ext W H (add1 W1 p) H1 := ⟨fun a o e n => ⟨(y.keep a o e n).1, fun z => z.elim (y.keep a o e n).2 fun z => by subst z; rw [h0] at e; cases e⟩, y.live⟩
      refine h (add1 W1 p) [p] H1 _ ⟨R2, x2, fun q hq => by simp at hq; subst hq; exact h0⟩ ?_ (by simpa using l)
      have Er2 := (Er0.ext x2.bar).app [p]
      refine Er2.set (av := .cell M1.length) ⟨p, ?_, rfl⟩ i
      rw [← R.len]
      simp
  | d y => exact plain (by cases m <;> rfl)
  | cell y => exact plain (by cases m <;> rfl)
  | scr y => exact plain (by cases m <;> rfl)
end
section
variable {X : Cx} {E : WX} {e a b : Expr} {f g : SE} {s t : SS} {c : Expr} {p : SB} {st : Stmt} {rest sts sts' : List Stmt} {pos : Pos}
theorem PS.imp {t t' : TS} (h : PS X st t) (k : ∀ D σ H, t' D σ H → t D σ H) : PS X st t' := ⟨fun pins s σ H D I q => h.run pins s σ H D I (k D σ H q)⟩
theorem PSs.imp {t t' : TS} (h : PSs X sts t) (k : ∀ D σ H, t' D σ H → t D σ H) : PSs X sts t' := ⟨fun pins s σ H D I q => h.run pins s σ H D I (k D σ H q)⟩
theorem gs_nil : GSs X E [] sSkip := PSs.imp pss_nil fun D σ H ⟨W, Z, φ, env, M, R, Er, h⟩ => RunS.next R h Er rfl
/-- what a statement's outcome binds -/
theorem seq_run {G : Gm} {W Z : Addr → Prop} {φ : List Addr} {H : Hp} {n : Nat} {r : Out Fl} {D : Ends} {k : SS} (h : RunS G Z φ W H n (r.bind fun fl M1 => match fl with | .next e => k e M1 | fl => .ok fl M1) D E) :
    RunS G Z φ W H n r { D with nx := fun σ H => ∀ _ : σ.length = n, rdS G k E D σ H } E := by
  cases r with
  | bad => exact h
  | exc e M' => exact h
  | ok fl M' =>
    cases fl with
    | next e => exact fun W' ψ H' σ' x q l _ => ⟨W', Z, φ ++ ψ, e, M', x.rel, q, by rw [l]; exact RunS.later h x⟩
    | ret av => exact h
    | brk e => exact h
    | cont e => exact h
theorem RunS.imp {G : Gm} {W Z : Addr → Prop} {φ : List Addr} {H : Hp} {n : Nat} {r : Out Fl} {D D' : Ends} (h : RunS G Z φ W H n r D E) (k1 : ∀ σ H, σ.length = n → D.nx σ H → D'.nx σ H) (k2 : ∀ v H, D.rt v H → D'.rt v H)
    (k3 : ∀ σ H, σ.length = n → D.bk σ H → D'.bk σ H) (k4 : ∀ σ H, σ.length = n → D.ct σ H → D'.ct σ H) : RunS G Z φ W H n r D' E := by
  cases r with
  | bad => exact h
  | exc e M' => exact h
  | ok fl M' =>
    cases fl with
    | next e => exact fun W' ψ H' σ' x q l => k1 _ _ l (h W' ψ H' σ' x q l)
    | ret av => exact fun W' ψ H' v x q => k2 _ _ (h W' ψ H' v x q)
    | brk e => exact fun W' ψ H' σ' x q l => k3 _ _ l (h W' ψ H' σ' x q l)
    | cont e => exact fun W' ψ H' σ' x q l => k4 _ _ l (h W' ψ H' σ' x q l)
theorem gs_cons (h1 : GS X E st s) (h2 : GSs X E rest t) : GSs X E (st :: rest) (sSeq2 s t) :=
  PSs.imp (pss_cons h1 h2) fun D σ H ⟨W, Z, φ, env, M, R, Er, h⟩ =>
    ⟨W, Z, φ, env, M, R, Er, (seq_run (k := t) h).imp (fun σ' H' l q => q l) (fun _ _ q => q) (fun _ _ _ q => q) (fun _ _ _ q => q)⟩
theorem gs_ret (he : GE X E e f) : GS X E (.Return (some e) pos) (sRet f) :=
  PS.imp (ps_ret he) fun D σ H ⟨W, Z, φ, env, M, R, Er, h⟩ => ⟨W, Z, φ, env, M, R, Er,
    (RunS.bind0 h).imp2 (fun v H1 ⟨W1, M1, x, _, R1, x1, r1, h2⟩ => h2 W1 [] H1 v (Fin.of R1 x1) (by simpa using r1)) (fun c d H' q => q σ rfl)⟩
theorem gs_retN : GS X E (.Return none pos) sRetN :=
  PS.imp ps_retN fun D σ H ⟨W, Z, φ, env, M, R, Er, h⟩ => h W [] H .non (Fin.refl R) (by show RD _ _ _ _ _; exact .non)
theorem gs_expr (he : GE X E e f) (hs : swapsWith e none pos.line X.env = pure false) : GS X E (.Expr e pos) (sExpr f) :=
  PS.imp (ps_expr he hs) fun D σ H ⟨W, Z, φ, env, M, R, Er, h⟩ => ⟨W, Z, φ, env, M, R, Er,
    (RunS.bind h).imp2 (fun v H1 ⟨W1, M1, x, _, R1, x1, r1, h2⟩ => RunS.next R1 h2 (Er.ext x1.bar) rfl) (fun c d H' q => q σ rfl)⟩
theorem gs_if (hc : GB X E c p) (ha : GSs X E sts s) (hb : GSs X E sts' t) : GS X E (.If c sts sts' pos) (sIfS p s t) :=
  PS.imp (ps_if hc ha hb) fun D σ H ⟨W, Z, φ, env, M, R, Er, h⟩ => ⟨W, Z, φ, env, M, R, Er,
    (RunS.bind h).imp2 (fun v H1 ⟨W1, M1, x, _, R1, x1, r1, h2⟩ => by
      subst r1
      cases x with
      | true => exact ⟨W1, Z, φ, env, M1, R1, Er.ext x1.bar, h2⟩
      | false => exact ⟨W1, Z, φ, env, M1, R1, Er.ext x1.bar, h2⟩) (fun c d H' q => q σ rfl)⟩
/-- from an expression's value to the name -/
theorem asg_read {G : Gm} {i : Nat} {m : Bool} (D : Ends) (σ : St) (H : Hp) : rdS G (sAsg i m f) E D σ H → tAsg (rdE G f E) (gName i) D σ H := fun ⟨W, Z, φ, env, M, R, Er, h⟩ => ⟨W, Z, φ, env, M, R, Er,
    (RunS.bind0 h).imp2 (fun v H1 ⟨W1, M1, x, _, R1, x1, r1, h2⟩ => asg_run R1 (Er.ext x1.bar) r1 x1 h2 rfl Er) (fun c d H' q => q σ rfl)⟩
theorem gs_asg {i : Nat} {x : Str} {m : Bool} {pos' : Pos} (hN : X.N.Nodup) (hi : X.N[i]? = some x) (hx : Loc X.env.scope x) (he : GE X E e f) (hs : swapsWith e (some (.Name x pos')) pos.line X.env = pure false)
    (hf : X.fn x = true ∨ X.env.scope.names.lookup x = some .local) : GS X E (.Assign [.Name x pos'] e pos) (sAsg i m f) :=
  PS.imp (ps_set hN hi hx he hs hf) fun D σ H h => asg_read D σ H h
theorem gs_asgT {tg : Expr} {t : Tg} (he : GE X E e f) (hg : PG X tg (rdT (gm X) t)) (hs : swapsWithSole [tg] e pos.line X.env = pure false) (hw : swappedStores [tg] e X.env = pure none) (h1 : (assignEach [tg] X.env).map (·.2) = [assign tg X.env]) :
    GS X E (.Assign [tg] e pos) (sAsgT t f) :=
  PS.imp (ps_asg he hg hs hw h1) fun D σ H ⟨W, Z, φ, env, M, R, Er, h⟩ => ⟨W, Z, φ, env, M, R, Er,
    (RunS.bind h).imp2 (fun v H1 ⟨W1, M1, x, _, R1, x1, r1, h2⟩ => by
      cases x with
      | d y =>
        dsimp only at h2
        cases e1 : t.bind y env with
        | none => rw [e1] at h2; exact h2.elim
        | some env' =>
          rw [e1] at h2
          exact ⟨W1, Z, φ, env, M1, y, env', R1, Er.ext x1.bar, r1, e1, fun σ' Er' _ => RunS.next R1 h2 Er' (by rw [← Er'.len, Tg.len e1, Er.len])⟩
      | _ => exact h2.elim) (fun c d H' q => q σ rfl)⟩
theorem gs_brk : GS X E (.Break pos) sBrk := PS.imp ps_break fun D σ H ⟨W, Z, φ, env, M, R, Er, h⟩ => h W [] H σ (Fin.refl R) (by simpa using Er) rfl
theorem gs_cont : GS X E (.Continue pos) sCont := PS.imp ps_continue fun D σ H ⟨W, Z, φ, env, M, R, Er, h⟩ => h W [] H σ (Fin.refl R) (by simpa using Er) rfl
theorem gs_pass : GS X E (.Pass pos) sSkip := PS.imp ps_pass fun D σ H ⟨W, Z, φ, env, M, R, Er, h⟩ => RunS.next R h Er rfl
end
end Mp

namespace Mp
open PySem L2

/-! ## loops -/
def forL (body : SS) (tg : Tg) (deps : List (Nat × List D)) : List D → Env → Mem → Out Fl
  | [], env, M => if depsOk M deps = true then .ok (.next env) M else .bad
  | d :: r, env, M => if depsOk M deps = true then
      match tg.bind d env with
      | none => .bad
      | some e => (body e M).bind fun fl M' => match fl with
        | .next e' => forL body tg deps r e' M'
        | .cont e' => forL body tg deps r e' M'
        | .brk e' => .ok (.next e') M'
        | .ret v => .ok (.ret v) M'
    else .bad
def sFor (it : SI) (tg : Tg) (body : SS) : SS := fun env M => (it env M).bind fun itm M1 => forL body tg itm.deps itm.items env M1
def whileF (c : SB) (body : SS) : Nat → Env → Mem → Out Fl
  | 0, _, _ => .bad
  | n + 1, env, M => (c env M).bind fun b M1 => if b = true then
      (body env M1).bind fun fl M' => match fl with
        | .next e' => whileF c body n e' M'
        | .cont e' => whileF c body n e' M'
        | .brk e' => .ok (.next e') M'
        | .ret v => .ok (.ret v) M'
    else .ok (.next env) M1
@[irreducible] def bigF : Nat := 2 ^ 4096
def sWhile (c : SB) (body : SS) : SS := fun env M => whileF c body bigF env M

theorem forL_deps {body : SS} {tg : Tg} {deps : List (Nat × List D)} {M : Mem} (h : ¬ depsOk M deps = true) : ∀ (r : List D) (env : Env), forL body tg deps r env M = .bad
  | [], _ => by unfold forL; rw [if_neg h]
  | _ :: _, _ => by unfold forL; rw [if_neg h]
section
variable {X : Cx} {E : WX} {tg iter c : Expr} {body : List Stmt} {fi : SI} {t : Tg} {s : SS} {p : SB} {pos : Pos}
theorem gs_for (hp : PassesOwn (model X.prog X.w) X.A X.env X.xe) (hc : X.calm = true) (hi : GI X E tg iter fi) (hg : PG X tg (rdT (gm X) t)) (hb : GSs X E body s) (hs : ∀ x, foldedSetIterable iter X.env x = pure x) :
    GS X E (.For tg iter body [] pos) (sFor fi t s) :=
  PS.imp (ps_for hp hc hi hg hb hs) fun De σ H ⟨W, Z, φ, env, M, R, Er, h⟩ => ⟨W, Z, φ, env, M, R, Er, (RunS.bind h).imp2 (fun J H1 ⟨W1, M1, itm, e, R1, x1, ⟨Gd, Y, w, hG, hY⟩, h2⟩ => by
    refine for_it w (fun i σ' H' => ∃ Wi ψ Mi env', Rel (gm X) Wi Z (φ ++ ψ) Mi H' ∧ EnvR (gm X) (Bar Wi Z) (φ ++ ψ) H' env' σ' ∧ σ'.length = σ.length ∧ Ext W1 H1 Wi H' ∧ (∀ p ∈ ψ, H1 p = none) ∧
      RunS (gm X) Z φ W1 H1 σ.length (forL s t itm.deps (itm.items.drop i) env' Mi) De E) ?_ ?_ ?_ ?_
    · exact ⟨W1, [], M1, env, by simpa using R1, by simpa using Er.ext x1.bar, rfl, Ext.refl _ _, (fun _ h => by cases h), h2⟩
    · rintro i σ' H' _ ⟨Wi, ψ, Mi, env', Ri, Ei, l, xi, nw, hr⟩
      refine hG Z Wi ψ Mi H' ⟨fun a z => .inl z, Ri, xi, ?_⟩
      by_cases q : depsOk Mi itm.deps = true
      · exact q
      · rw [forL_deps q] at hr; exact hr.elim
    · rintro i x σ' H' H'' hi ⟨Wi, ψ, Mi, env', Ri, Ei, l, xi, nw, hr⟩ hy
      by_cases q : depsOk Mi itm.deps = true
      · obtain ⟨d, hd, R2, x2, rd⟩ := hY i x H'' Z Wi ψ Mi H' ⟨fun a z => .inl z, Ri, xi, q⟩ hi hy
        have ed : itm.items.drop i = d :: itm.items.drop (i + 1) := by
          obtain ⟨hl, e1⟩ := List.getElem?_eq_some_iff.mp hd
          rw [← e1]
          exact List.drop_eq_getElem_cons hl
        rw [ed] at hr
        unfold forL at hr
        rw [if_pos q] at hr
        cases eb : t.bind d env' with
        | none => rw [eb] at hr; exact hr.elim
        | some e2 =>
          rw [eb] at hr
          refine ⟨Wi, Z, φ ++ ψ, env', Mi, d, e2, R2, Ei.ext x2.bar, rd, eb, fun σ2 Er2 s2 => ⟨Wi, Z, φ ++ ψ, e2, Mi, R2, Er2, ?_⟩⟩
          have l2 : σ2.length = σ.length := by rw [← Er2.len, Tg.len eb, Ei.len, l]
          have F0 : Fin (gm X) Z φ W1 H1 Mi Wi ψ H'' := ⟨R2, xi.trans x2, nw⟩
          rw [l2]
          dsimp only at hr
          revert hr
          cases s e2 Mi with
          | bad => exact fun hr => hr
          | exc x M' => exact fun hr => RunS.later hr F0
          | ok fl M' =>
            intro hr
            have go : ∀ e', RunS (gm X) Z φ W1 H1 σ.length (forL s t itm.deps (itm.items.drop (i + 1)) e' M') De E → ∀ W' ψ' H3 σ3, Fin (gm X) Z (φ ++ ψ) Wi H'' M' W' ψ' H3 → EnvR (gm X) (Bar W' Z) (φ ++ ψ ++ ψ') H3 e' σ3 → σ3.length = σ.length →
                ∃ Wi ψ Mi env', Rel (gm X) Wi Z (φ ++ ψ) Mi H3 ∧ EnvR (gm X) (Bar Wi Z) (φ ++ ψ) H3 env' σ3 ∧ σ3.length = σ.length ∧ Ext W1 H1 Wi H3 ∧ (∀ p ∈ ψ, H1 p = none) ∧
                  RunS (gm X) Z φ W1 H1 σ.length (forL s t itm.deps (itm.items.drop (i + 1)) env' Mi) De E := fun e' hq W' ψ' H3 σ3 f q l3 => by
              have f2 := F0.trans f
              exact ⟨W', ψ ++ ψ', M', e', f2.rel, by rw [← List.append_assoc]; exact q, l3, f2.ext, f2.new, hq⟩
            cases fl with
            | next e' => exact go e' hr
            | cont e' => exact go e' hr
            | ret v => exact fun W' ψ' H3 v' f q => RunS.later hr F0 W' ψ' H3 v' f q
            | brk e' => exact fun W' ψ' H3 σ3 f q l3 => RunS.later hr F0 W' ψ' H3 σ3 f q l3
      · rw [forL_deps q] at hr; exact hr.elim
    · rintro σ' H' ⟨Wi, ψ, Mi, env', Ri, Ei, l, xi, nw, hr⟩
      rw [List.drop_length] at hr
      unfold forL at hr
      split at hr
      · exact hr Wi ψ H' σ' ⟨Ri, xi, nw⟩ Ei l
      · exact hr.elim) (fun c d H' q => q σ rfl)⟩
theorem gs_while (hp : PassesOwn (model X.prog X.w) X.A X.env X.xe) (hc : GB X E c p) (hb : GSs X E body s) : GS X E (.While c body [] pos) (sWhile p s) :=
  PS.imp (ps_while hp hc hb) fun De σ H ⟨W, Z, φ, env, M, R, Er, h⟩ => by
    refine ⟨fun m σ' H' => ∃ Wi ψ Mi env', Rel (gm X) Wi Z (φ ++ ψ) Mi H' ∧ EnvR (gm X) (Bar Wi Z) (φ ++ ψ) H' env' σ' ∧ σ'.length = σ.length ∧ Ext W H Wi H' ∧ (∀ p ∈ ψ, H p = none) ∧
      RunS (gm X) Z φ W H σ.length (whileF p s m env' Mi) De E, ⟨bigF, W, [], M, env, by simpa using R, by simpa using Er, rfl, Ext.refl _ _, (fun _ h => by cases h), h⟩, ?_⟩
    rintro m σ' H' ⟨Wi, ψ, Mi, env', Ri, Ei, l, xi, nw, hr⟩
    cases m with
    | zero => exact hr.elim
    | succ m =>
      unfold whileF at hr
      have F0 : Fin (gm X) Z φ W H Mi Wi ψ H' := ⟨Ri, xi, nw⟩
      refine ⟨Wi, Z, φ ++ ψ, env', Mi, Ri, Ei, (RunS.bind (RunS.later hr F0)).imp2 (fun b H1 ⟨W1, M1, b', e, R1, x1, r1, h2⟩ => ?_) (fun c d H' q => q σ' l)⟩
      subst r1
      have F1 : Fin (gm X) Z φ W H M1 W1 ψ H1 := ⟨R1, xi.trans x1, nw⟩
      cases b' with
      | false =>
        rw [if_neg Bool.false_ne_true] at h2 ⊢
        exact RunS.next R1 h2 (Ei.ext x1.bar) l
      | true =>
        rw [if_pos rfl] at h2 ⊢
        rw [e, Out.bind_ok, if_pos rfl] at hr
        refine ⟨fun σ3 H3 => ∃ Wi ψ Mi env', Rel (gm X) Wi Z (φ ++ ψ) Mi H3 ∧ EnvR (gm X) (Bar Wi Z) (φ ++ ψ) H3 env' σ3 ∧ σ3.length = σ.length ∧ Ext W H Wi H3 ∧ (∀ p ∈ ψ, H p = none) ∧
          RunS (gm X) Z φ W H σ.length (whileF p s m env' Mi) De E, fun σ3 H3 q => ⟨m, Nat.lt_succ_self m, q⟩, W1, Z, φ ++ ψ, env', M1, R1, Ei.ext x1.bar, ?_⟩
        rw [l]
        revert hr
        cases s env' M1 with
        | bad => exact fun hr => hr
        | exc x M' => exact fun hr => RunS.later hr F1
        | ok fl M' =>
          intro hr
          have go : ∀ e', RunS (gm X) Z φ W H σ.length (whileF p s m e' M') De E → ∀ W' ψ' H3 σ3, Fin (gm X) Z (φ ++ ψ) W1 H1 M' W' ψ' H3 → EnvR (gm X) (Bar W' Z) (φ ++ ψ ++ ψ') H3 e' σ3 → σ3.length = σ.length →
              ∃ Wi ψ Mi env', Rel (gm X) Wi Z (φ ++ ψ) Mi H3 ∧ EnvR (gm X) (Bar Wi Z) (φ ++ ψ) H3 env' σ3 ∧ σ3.length = σ.length ∧ Ext W H Wi H3 ∧ (∀ p ∈ ψ, H p = none) ∧
                RunS (gm X) Z φ W H σ.length (whileF p s m env' Mi) De E := fun e' hq W' ψ' H3 σ3 f q l3 => by
            have f2 := F1.trans f
            exact ⟨W', ψ ++ ψ', M', e', f2.rel, by rw [← List.append_assoc]; exact q, l3, f2.ext, f2.new, hq⟩
          cases fl with
          | next e' => exact go e' hr
          | cont e' => exact go e' hr
          | ret v => exact fun W' ψ' H3 v' f q => RunS.later hr F1 W' ψ' H3 v' f q
          | brk e' => exact fun W' ψ' H3 σ3 f q l3 => RunS.later hr F1 W' ψ' H3 σ3 f q l3
end
end Mp

namespace Mp
open PySem L2

/-! ## stores into lists -/
section
variable {G : Gm} {W W1 Z : Addr → Prop} {φ : List Addr} {H H1 : Hp} {M M1 : Mem}
/-- a cell's list is changed -/
theorem Rel.setCell (R : Rel G W Z φ M H) {i : Nat} {p : Addr} {c : MC} {ys : List D} {us : List V} (e : φ[i]? = some p) (e2 : M[i]? = some (some c)) (rd : RDs G (Bar W Z) H ys us) :
    Rel G W Z φ (M.set i (some (.l ys))) (upd H p (.lst us)) ∧ Ext W H W (upd H p (.lst us)) := by
  obtain ⟨wp, _⟩ := R.cell i p c e e2
  have lv : ∀ a, H a ≠ none → upd H p (.lst us) a ≠ none := fun a h => by
    by_cases z : a = p
    · rw [z, upd_same]; simp
    · rw [upd_ne z]; exact h
  have x : Ext W H W (upd H p (.lst us)) := ⟨fun a o h n => ⟨by rw [upd_ne fun z => n (by rw [z]; exact wp)]; exact h, n⟩, lv⟩
  have hi : i < M.length := (List.getElem?_eq_some_iff.mp e2).1
  refine ⟨⟨by rw [List.length_set]; exact R.len, R.nd, fun a w => lv a (R.wt a w), fun a z => lv a (R.zt a z), fun j q e3 => ⟨lv q (R.sep j q e3).1, (R.sep j q e3).2⟩, fun j q c' e3 e4 => ?_⟩, x⟩
  by_cases hj : j = i
  · subst hj
    rw [List.getElem?_set_self hi] at e4
    cases e4
    rw [e] at e3; cases e3
    exact ⟨wp, us, upd_same, rd.ext x.bar⟩
  · rw [List.getElem?_set_ne (Ne.symm hj)] at e4
    obtain ⟨w, r⟩ := R.cell j q c' e3 e4
    have hq : q ≠ p := fun z => by
      subst z
      obtain ⟨l1, g1⟩ := List.getElem?_eq_some_iff.mp e3
      obtain ⟨l2, g2⟩ := List.getElem?_eq_some_iff.mp e
      exact hj ((List.getElem_inj R.nd).mp (g1.trans g2.symm))
    exact ⟨w, r.ext x.bar (upd_ne hq)⟩
end
/-- a cell that is alive -/
def cellOf? (M : Mem) : AV → Option (Nat × List D)
  | .cell i => match M[i]? with
    | some (some (.l xs)) => some (i, xs)
    | _ => none
  | _ => none
theorem cellOf_ok {M : Mem} {x : AV} {i : Nat} {xs : List D} (h : cellOf? M x = some (i, xs)) : x = .cell i ∧ M[i]? = some (some (.l xs)) := by
  unfold cellOf? at h
  split at h
  · split at h
    · cases h; exact ⟨rfl, by assumption⟩
    · cases h
  · cases h
/-- o[i] = v -/
def sSetI (fo fi fv : SE) : SS := fun env M => (fv env M).bind fun v M1 => (fo env M1).bind fun o M2 => (fi env M2).bind fun k M3 => match keepD v.settle M3, k with
  | some (d, M4), .d (.int k) => match cellOf? M4 o with
    | some (c, xs) => match ixN xs.length k with
      | some j => .ok (.next env) (M4.set c (some (.l (xs.set j d))))
      | none => .bad
    | none => .bad
  | _, _ => .bad
/-- methods that change a list: what comes, what is left -/
def mAppend : List D → List AV → Mem → Option (D × List D × Mem)
  | xs, [a], M => match keepD a M with
    | some (d, M1) => if xs.length < sizeLine then some (.non, xs ++ [d], M1) else none
    | none => none
  | _, _, _ => none
def mExtend : List D → List AV → Mem → Option (D × List D × Mem)
  | xs, [a], M => match lstOf M a, a with
    | some zs, .scr _ => none
    | some zs, _ => if xs.length + zs.length ≤ sizeLine then some (.non, xs ++ zs, M) else none
    | none, _ => none
  | _, _, _ => none
def mPop : List D → List AV → Mem → Option (D × List D × Mem)
  | xs, [], M => match xs[xs.length - 1]? with
    | some d => some (d, xs.dropLast, M)
    | none => none
  | xs, [.d (.int i)], M => if -(2 ^ 63) ≤ i ∧ i < 2 ^ 63 then match seqIndex? i xs.length with
      | some k => match xs[k]? with
        | some d => some (d, xs.eraseIdx k, M)
        | none => none
      | none => none
    else none
  | _, _, _ => none
def sMeth (m : List D → List AV → Mem → Option (D × List D × Mem)) (fo : SE) (l : SL) : SE := fun env M => (fo env M).bind fun o M1 => match cellOf? M1 o with
  | none => .bad
  | some _ => (l env M1).bind fun avs M2 => match cellOf? M2 o with
    | none => .bad
    | some (_, xs) => match m xs avs M2 with
      | none => .bad
      | some (d, ys, M3) => match cellOf? M3 o with
        | none => .bad
        | some (c, _) => .ok (.d d) (M3.set c (some (.l ys)))
section
variable {X : Cx} {E : WX} {a o i v e : Expr} {es : List Expr} {f fo fi fv fe g : SE} {l : SL} {pos tpos : Pos}
theorem get_list {p : Addr} : PGet X (rIxL X.K) := by
  intro pins s σ H o i ov iv Q I ro ri h
  obtain ⟨p, xs, k, z, rfl, rfl, hq, he, q⟩ := h
  cases ro
  obtain ⟨t, rfl⟩ := ri
  obtain ⟨its, r, pl, hz⟩ := I.list hq
  obtain ⟨j, h1, h2, h3, h4, h5⟩ := atI_get he
  obtain ⟨w, ew, rw'⟩ := r.get h2
  have hl := r.length
  have hn := line63
  have fin : EP X pins σ Q w s := ⟨z, H, I, rw', q⟩
  by_cases h0 : 0 ≤ k
  · have hj : k.toNat = j := by
      rw [seqIndex_of h0 h5] at h1
      exact Option.some.inj h1
    exact wpAny_getItem_list pl.isList h0 (by omega) (by rw [hj]; simpa using ew) fin
  · have hj : (k + (its.toArray.size : Int)).toNat = j := by
      rw [seqIndex_neg (by omega) h4] at h1
      rw [List.size_toArray, ← hl]
      exact Option.some.inj h1
    exact wpAny_getItem_list_neg pl.isList (by omega) (by rw [List.size_toArray] <;> omega) (by omega) (by rw [hj]; simpa using ew) fin
theorem gs_setI (hv : GE X E v fv) (ho : GE X E o fo) (hi : GE X E i fi) (hs : swapsWithSole [.Subscript o i tpos] v pos.line X.env = pure false) (hw : swappedStores [.Subscript o i tpos] v X.env = pure none)
    (h1 : (assignEach [.Subscript o i tpos] X.env).map (·.2) = [assign (.Subscript o i tpos) X.env])
    (hg : ∀ {to ti : TE}, PE X o to → PE X i ti → PG X (.Subscript o i tpos) (gSub to ti rSetL)) : GS X E (.Assign [.Subscript o i tpos] v pos) (sSetI fo fi fv) :=
  PS.imp (ps_asg hv (hg ho hi) hs hw h1) fun De σ H ⟨W, Z, φ, env, M, R, Er, h⟩ => ⟨W, Z, φ, env, M, R, Er,
    (RunS.bind h).imp2 (fun x H1 ⟨W1, M1, x', _, R1, x1, r1, h2⟩ => ⟨W1, Z, φ, env, M1, R1, Er.ext x1.bar,
      (RunS.bind h2).imp2 (fun y H2 ⟨W2, M2, y', _, R2, x2, r2, h3⟩ => ⟨W2, Z, φ, env, M2, R2, (Er.ext x1.bar).ext x2.bar,
        (RunS.bind h3).imp2 (fun z H3 ⟨W3, M3, z', _, R3, x3, r3, h4⟩ => by
          have rx := ((r1.sr.settle).ext x2.bar).ext x3.bar
          cases ek : keepD x'.settle M3 with
          | none => rw [ek] at h4; exact h4.elim
          | some dM =>
            obtain ⟨d, M4⟩ := dM
            rw [ek] at h4
            cases z' with
            | d zz =>
              cases zz with
              | int k =>
                cases r3
                dsimp only at h4
                cases ec : cellOf? M4 y' with
                | none => rw [ec] at h4; exact h4.elim
                | some cx =>
                  obtain ⟨c, xs⟩ := cx
                  rw [ec] at h4
                  dsimp only at h4
                  cases ej : ixN xs.length k with
                  | none => rw [ej] at h4; exact h4.elim
                  | some j =>
                    rw [ej] at h4
                    obtain ⟨rfl, em⟩ := cellOf_ok ec
                    obtain ⟨W4, R4, l4, rd⟩ := keep_ok R3 rx ek
                    obtain ⟨p, ep, rfl⟩ := r2.sr
                    obtain ⟨_, vs, hp, rvs⟩ := R4.cell c p _ ep em
                    obtain ⟨R5, x5⟩ := R4.setCell ep em (rvs.set rd j)
                    refine ⟨p, vs, k, j, rfl, rfl, hp, by rw [← rvs.length]; exact ej, ?_⟩
                    exact h4 W4 [] _ σ ⟨by simpa using R5, (Ext.less l4).trans x5, fun _ z => by cases z⟩ (by simpa using ((((Er.ext x1.bar).ext x2.bar).ext x3.bar).ext (Ext.bar (Ext.less l4))).ext x5.bar) rfl
              | _ => exact h4.elim
            | _ => exact h4.elim) (fun c d H' q => q σ rfl)⟩) (fun c d H' q => q σ rfl)⟩) (fun c d H' q => q σ rfl)⟩
/-- a method with arguments -/
theorem meth_run {m : List D → List AV → Mem → Option (D × List D × Mem)} {r : V → List V → Hp → VK → Prop} {G : Gm} {W Z : Addr → Prop} {φ : List Addr} {H : Hp} {M : Mem} {Q : VK} {EE : XK} {o : AV} {avs : List AV} {v : V} {vs : List V}
    (R : Rel G W Z φ M H) (ro : SR G (Bar W Z) φ H o v) (ra : SRs G (Bar W Z) φ H avs vs)
    (hm : ∀ xs d ys M', m xs avs M = some (d, ys, M') → ∀ p us, H p = some (.lst us) → RDs G (Bar W Z) H xs us → ∃ W' y ws, Rel G W' Z φ M' H ∧ (∀ a, W' a → W a) ∧ RD G (Bar W' Z) H d y ∧ RDs G (Bar W' Z) H ys ws ∧ ∀ Q : VK, Q y (upd H p (.lst ws)) → r (.ref p) vs H Q)
    (h : Run G Z φ W H (match cellOf? M o with | none => .bad | some (_, xs) => match m xs avs M with | none => .bad | some (d, ys, M3) => match cellOf? M3 o with | none => .bad | some (c, _) => .ok (.d d) (M3.set c (some (.l ys)))) Q EE) : r v vs H Q := by
  cases ec : cellOf? M o with
  | none => rw [ec] at h; exact h.elim
  | some cx =>
    obtain ⟨c, xs⟩ := cx
    rw [ec] at h
    dsimp only at h
    cases em : m xs avs M with
    | none => rw [em] at h; exact h.elim
    | some t =>
      obtain ⟨d, ys, M3⟩ := t
      rw [em] at h
      dsimp only at h
      cases ec2 : cellOf? M3 o with
      | none => rw [ec2] at h; exact h.elim
      | some cy =>
        obtain ⟨c2, xs2⟩ := cy
        rw [ec2] at h
        obtain ⟨rfl, e1⟩ := cellOf_ok ec
        obtain ⟨e3, e2⟩ := cellOf_ok ec2
        cases e3
        obtain ⟨p, ep, rfl⟩ := ro
        obtain ⟨_, us, hp, rus⟩ := R.cell c p _ ep e1
        obtain ⟨W', y, ws, R', l', rd, rds, k⟩ := hm xs d ys M3 em p us hp rus
        obtain ⟨R5, x5⟩ := R'.setCell ep e2 rds
        exact k Q (h W' _ y R5 ((Ext.less l').trans x5) (rd.ext x5.bar))
theorem tyV_list {K : PySem.W.Frag} {p : Addr} {us : List V} {H : Hp} (h : H p = some (.lst us)) : tyV K "list" (.ref p) H := .inl ⟨rfl, _, .of h⟩
theorem ge_meth {m : List D → List AV → Mem → Option (D × List D × Mem)} {r : V → List V → Hp → VK → Prop} (ho : GE X E o fo) (hl : GL X E es l)
    (hp : ∀ {to : TE} {t : TA}, PE X o to → PA X es t → PE X e (tBM X.K "list" r to t))
    (hm : ∀ (W Z : Addr → Prop) (φ : List Addr) (M : Mem) (H : Hp) avs vs, Rel (gm X) W Z φ M H → SRs (gm X) (Bar W Z) φ H avs vs → ∀ xs d ys M', m xs avs M = some (d, ys, M') → ∀ p us, H p = some (.lst us) → RDs (gm X) (Bar W Z) H xs us →
      ∃ W' y ws, Rel (gm X) W' Z φ M' H ∧ (∀ a, W' a → W a) ∧ RD (gm X) (Bar W' Z) H d y ∧ RDs (gm X) (Bar W' Z) H ys ws ∧ ∀ Q : VK, Q y (upd H p (.lst ws)) → r (.ref p) vs H Q) : GE X E e (sMeth m fo l) :=
  PE.imp (hp ho hl) fun σ H Q ⟨W, Z, φ, env, M, R, Er, h⟩ => ⟨W, Z, φ, env, M, R, Er, (Run.bind h).imp fun v H1 ⟨W1, M1, x, _, R1, x1, r1, h2⟩ => by
    cases ec : cellOf? M1 x with
    | none => rw [ec] at h2; exact h2.elim
    | some cx =>
      obtain ⟨c, xs⟩ := cx
      rw [ec] at h2
      dsimp only at h2
      obtain ⟨rfl, e1⟩ := cellOf_ok ec
      obtain ⟨p, ep, rfl⟩ := id r1.sr
      obtain ⟨_, us, hp, rus⟩ := R1.cell c p _ ep e1
      refine ⟨tyV_list hp, W1, Z, φ, env, M1, R1, Er.ext x1.bar, (Run.bind h2).imp fun vs H2 ⟨W2, M2, avs, _, R2, x2, r2, h3⟩ => ?_⟩
      exact meth_run R2 (r1.sr.ext x2.bar) r2 (hm W2 Z φ M2 H2 avs vs R2 r2) h3⟩
theorem append_ok {G : Gm} (W Z : Addr → Prop) (φ : List Addr) (M : Mem) (H : Hp) (avs : List AV) (vs : List V) (R : Rel G W Z φ M H) (ra : SRs G (Bar W Z) φ H avs vs) (xs : List D) (d : D) (ys : List D) (M' : Mem) (h : mAppend xs avs M = some (d, ys, M')) (p : Addr) (us : List V)
    (hp : H p = some (.lst us)) (rus : RDs G (Bar W Z) H xs us) : ∃ W' y ws, Rel G W' Z φ M' H ∧ (∀ a, W' a → W a) ∧ RD G (Bar W' Z) H d y ∧ RDs G (Bar W' Z) H ys ws ∧ ∀ Q : VK, Q y (upd H p (.lst ws)) → rAppend (.ref p) vs H Q := by
  unfold mAppend at h
  split at h
  · obtain ⟨v, rfl, r1⟩ := ra.one
    split at h
    · rename_i d1 M1 ek
      split at h
      · rename_i hlt
        cases h
        obtain ⟨W', R', l', rd⟩ := keep_ok R r1 ek
        refine ⟨W', .non, us ++ [v], R', l', .non, (rus.ext (Ext.bar (Ext.less l'))).append (.cons rd .nil), fun Q q => ⟨p, us, v, rfl, rfl, hp, by rw [← rus.length]; exact hlt, q⟩⟩
      · cases h
    · cases h
  · cases h
theorem extend_ok {G : Gm} (W Z : Addr → Prop) (φ : List Addr) (M : Mem) (H : Hp) (avs : List AV) (vs : List V) (R : Rel G W Z φ M H) (ra : SRs G (Bar W Z) φ H avs vs) (xs : List D) (d : D) (ys : List D) (M' : Mem) (h : mExtend xs avs M = some (d, ys, M')) (p : Addr) (us : List V)
    (hp : H p = some (.lst us)) (rus : RDs G (Bar W Z) H xs us) : ∃ W' y ws, Rel G W' Z φ M' H ∧ (∀ a, W' a → W a) ∧ RD G (Bar W' Z) H d y ∧ RDs G (Bar W' Z) H ys ws ∧ ∀ Q : VK, Q y (upd H p (.lst ws)) → rExtend (.ref p) vs H Q := by
  unfold mExtend at h
  split at h
  · obtain ⟨v, rfl, r1⟩ := ra.one
    split at h
    · cases h
    · rename_i zs hn el
      split at h
      · rename_i hlt
        cases h
        obtain ⟨q, ws, rfl, h1, h2, h3⟩ := R.lst r1 el
        refine ⟨W, .non, us ++ ws, R, fun _ z => z, .non, rus.append h2, fun Q k => ⟨p, q, us, ws, rfl, rfl, hp, h3 fun ns e => ?_, by rw [← rus.length, ← h2.length]; exact hlt, k⟩⟩
        exact hn ns e
      · cases h
    · cases h
  · cases h
theorem pop_ok {G : Gm} (W Z : Addr → Prop) (φ : List Addr) (M : Mem) (H : Hp) (avs : List AV) (vs : List V) (R : Rel G W Z φ M H) (ra : SRs G (Bar W Z) φ H avs vs) (xs : List D) (d : D) (ys : List D) (M' : Mem) (h : mPop xs avs M = some (d, ys, M')) (p : Addr) (us : List V)
    (hp : H p = some (.lst us)) (rus : RDs G (Bar W Z) H xs us) : ∃ W' y ws, Rel G W' Z φ M' H ∧ (∀ a, W' a → W a) ∧ RD G (Bar W' Z) H d y ∧ RDs G (Bar W' Z) H ys ws ∧ ∀ Q : VK, Q y (upd H p (.lst ws)) → (rPop (.ref p) vs H Q ∨ rPopAt (.ref p) vs H Q) := by
  unfold mPop at h
  split at h
  · match vs, ra with
    | [], _ =>
      split at h
      · rename_i d1 e1
        cases h
        obtain ⟨y, e2, r⟩ := rus.get e1
        exact ⟨W, y, us.dropLast, R, fun _ z => z, r, rus.dropLast, fun Q q => .inl ⟨p, us, y, rfl, rfl, hp, by rw [← rus.length]; exact e2, q⟩⟩
      · cases h
  · obtain ⟨v, rfl, r1⟩ := ra.one
    cases r1
    split at h
    · rename_i hb
      split at h
      · rename_i k ek
        split at h
        · rename_i d1 e1
          cases h
          obtain ⟨y, e2, r⟩ := rus.get e1
          exact ⟨W, y, us.eraseIdx k, R, fun _ z => z, r, rus.eraseIdx k, fun Q q => .inr ⟨p, us, _, k, y, rfl, rfl, hp, hb.1, hb.2, by rw [← rus.length]; exact ek, e2, q⟩⟩
        · cases h
      · cases h
    · cases h
  · cases h
end
end Mp

namespace Mp
open PySem L2

/-! ## a, b = x, y with plain names; x op= e -/
def sPar2 (i j : Nat) (m n : Bool) (f g : SE) : SS := fun env M => (f env M).bind fun x M1 =>
  (g env (asgAV i m x env M1).2).bind fun y M2 => .ok (.next (asgAV j n y (asgAV i m x env M1).1 M2).1) (asgAV j n y (asgAV i m x env M1).1 M2).2
def sPar3 (i j k : Nat) (m n o : Bool) (f g h : SE) : SS := fun env M => (f env M).bind fun x M1 =>
  (g env (asgAV i m x env M1).2).bind fun y M2 => (h env (asgAV j n y (asgAV i m x env M1).1 M2).2).bind fun z M3 =>
    .ok (.next (asgAV k o z (asgAV j n y (asgAV i m x env M1).1 M2).1 M3).1) (asgAV k o z (asgAV j n y (asgAV i m x env M1).1 M2).1 M3).2
/-- what storing leaves: the frame's names as told, the state behind it -/
theorem asg_fin {G : Gm} {i : Nat} {m : Bool} {x : AV} {v : V} {W W1 Z : Addr → Prop} {φ : List Addr} {H H1 : Hp} {M1 : Mem} {env env0 : Env} {σ σ0 : St} (R : Rel G W1 Z φ M1 H1) (Er : EnvR G (Bar W1 Z) φ H1 env σ) (Er0 : EnvR G (Bar W Z) φ H env0 σ0)
    (hb : ∀ p W2, H p = none → (∀ a o, H a = some o → ¬ W a → ¬ W2 a) → (∀ a, W2 a → W1 a ∨ a = p) → Ext W H W2 H1 → EnvR G (Bar W2 Z) φ H1 env σ)
    (r : VR G W1 Z φ H H1 M1 x v) (y : Ext W H W1 H1) :
    ∃ W2 ψ, Rel G W2 Z (φ ++ ψ) (asgAV i m x env M1).2 H1 ∧ EnvR G (Bar W2 Z) (φ ++ ψ) H1 (asgAV i m x env M1).1 (σ.set i (some v)) ∧ Ext W H W2 H1 ∧ (∀ p ∈ ψ, H p = none) := by
  have plain : asgAV i m x env M1 = (env.set i (some x.settle), M1) → ∃ W2 ψ, Rel G W2 Z (φ ++ ψ) (asgAV i m x env M1).2 H1 ∧ EnvR G (Bar W2 Z) (φ ++ ψ) H1 (asgAV i m x env M1).1 (σ.set i (some v)) ∧ Ext W H W2 H1 ∧ (∀ p ∈ ψ, H p = none) := fun e => by
    rw [e]
    exact ⟨W1, [], by simpa using R, by simpa using Er.set r.sr.settle i, y, fun _ z => by cases z⟩
  cases x with
  | fr xs =>
    cases m with
    | false => exact plain rfl
    | true =>
      obtain ⟨p, rfl, h0, R2, hk⟩ := thaw R r y.live
      have x2 : Ext W H (add1 W1 p) H1 := ⟨fun a o e n => ⟨(y.keep a o e n).1, fun z => z.elim (y.keep a o e n).2 fun z => by subst z; rw [h0] at e; cases e⟩, y.live⟩
      refine ⟨add1 W1 p, [p], R2, ?_, x2, fun q hq => by simp at hq; subst hq; exact h0⟩
      have Er2 := (hb p (add1 W1 p) h0 (fun a o e n => (x2.keep a o e n).2) (fun a z => z) x2).app [p]
      refine Er2.set (av := .cell M1.length) ⟨p, ?_, rfl⟩ i
      rw [← R.len]
      simp
  | d y => exact plain (by cases m <;> rfl)
  | cell y => exact plain (by cases m <;> rfl)
  | scr y => exact plain (by cases m <;> rfl)
/-- a new list that comes while another one is at hand: the state with it as a cell -/
theorem asg_mem {i : Nat} {m : Bool} {x : AV} {env env' : Env} {M : Mem} : (asgAV i m x env M).2 = (asgAV i m x env' M).2 := by
  cases x <;> cases m <;> rfl
section
variable {X : Cx} {E : WX} {a b c : Expr} {f g h : SE} {pos px py pz pt pt2 : Pos} {kt k2 : Nat}
theorem gs_par2 {i j : Nat} {x y : Str} {m n : Bool} (hc : X.calm = true) (hN : X.N.Nodup) (hi : X.N[i]? = some x) (hj : X.N[j]? = some y) (hij : i ≠ j)
    (hx : X.env.scope.names.lookup x = some .local) (hy : X.env.scope.names.lookup y = some .local) (ha : GE X E a f) (hb : GE X E b g)
    (hw : swappedStores [.Tuple [.Name x px, .Name y py] kt pt] (.Tuple [a, b] k2 pt2) X.env = pure (some [x, y]))
    (hs : swapsWithSole [.Tuple [.Name x px, .Name y py] kt pt] (.Tuple [a, b] k2 pt2) pos.line X.env = pure false)
    (s1 : starEach [a, b] X.env = (false, eval a X.env) :: starEach [b] X.env) (s2 : starEach [b] X.env = (false, eval b X.env) :: starEach [] X.env) :
    GS X E (.Assign [.Tuple [.Name x px, .Name y py] kt pt] (.Tuple [a, b] k2 pt2) pos) (sPar2 i j m n f g) :=
  PS.imp (ps_par hc hN hi hj hij hx hy (pa_cons ha (pa_cons hb pa_nil s2) s1) hw hs) fun De σ H ⟨W, Z, φ, env, M, R, Er, h⟩ => by
    refine ⟨W, Z, φ, env, M, R, Er, (RunS.bind0 h).imp2 (fun v H1 ⟨W1, M1, x', _, R1, x1, r1, h2⟩ => ?_) (fun c d H' q => q σ rfl)⟩
    obtain ⟨W2, ψ, R2, Er2, x2, nw⟩ := asg_fin (i := i) (m := m) R1 (Er.ext x1.bar) Er (fun p W2 h0 k k2 xx => Er.ext xx.bar) r1 x1
    have h2' : RunS (gm X) Z (φ ++ ψ) W2 H1 σ.length ((g env (asgAV i m x' env M1).2).bind fun y' M2 => .ok (.next (asgAV j n y' (asgAV i m x' env M1).1 M2).1) (asgAV j n y' (asgAV i m x' env M1).1 M2).2) De E := RunS.later h2 ⟨R2, x2, nw⟩
    have Er1 : EnvR (gm X) (Bar W2 Z) (φ ++ ψ) H1 env σ := (Er.ext x2.bar).app ψ
    refine ⟨W2, Z, φ ++ ψ, env, _, R2, Er1, (RunS.bind0 h2').imp2 (fun u H2 ⟨W3, M3, y', _, R3, x3, r3, h4⟩ => ⟨v, u, rfl, ?_⟩) (fun c d H' q => q σ rfl)⟩
    obtain ⟨W4, ψ2, R4, Er4, x4, nw4⟩ := asg_fin (i := j) (m := n) R3 (Er2.ext x3.bar) Er2 (fun p W2 h0 k k2 xx => Er2.ext xx.bar) r3 x3
    exact h4 W4 ψ2 H2 _ ⟨R4, x4, nw4⟩ Er4 (by simp)
theorem gs_par3 {i j l : Nat} {x y z : Str} {m n o : Bool} (hc : X.calm = true) (hN : X.N.Nodup) (hi : X.N[i]? = some x) (hj : X.N[j]? = some y) (hl : X.N[l]? = some z) (hij : i ≠ j) (hil : i ≠ l) (hjl : j ≠ l)
    (hx : X.env.scope.names.lookup x = some .local) (hy : X.env.scope.names.lookup y = some .local) (hz : X.env.scope.names.lookup z = some .local) (ha : GE X E a f) (hb : GE X E b g) (hcc : GE X E c h)
    (hw : swappedStores [.Tuple [.Name x px, .Name y py, .Name z pz] kt pt] (.Tuple [a, b, c] k2 pt2) X.env = pure (some [x, y, z]))
    (hs : swapsWithSole [.Tuple [.Name x px, .Name y py, .Name z pz] kt pt] (.Tuple [a, b, c] k2 pt2) pos.line X.env = pure false)
    (s1 : starEach [a, b, c] X.env = (false, eval a X.env) :: starEach [b, c] X.env) (s2 : starEach [b, c] X.env = (false, eval b X.env) :: starEach [c] X.env) (s3 : starEach [c] X.env = (false, eval c X.env) :: starEach [] X.env) :
    GS X E (.Assign [.Tuple [.Name x px, .Name y py, .Name z pz] kt pt] (.Tuple [a, b, c] k2 pt2) pos) (sPar3 i j l m n o f g h) :=
  PS.imp (ps_par3 hc hN hi hj hl hij hil hjl hx hy hz (pa_cons ha (pa_cons hb (pa_cons hcc pa_nil s3) s2) s1) hw hs) fun De σ H ⟨W, Z, φ, env, M, R, Er, hh⟩ => by
    refine ⟨W, Z, φ, env, M, R, Er, (RunS.bind0 hh).imp2 (fun v H1 ⟨W1, M1, x', _, R1, x1, r1, h2⟩ => ?_) (fun c d H' q => q σ rfl)⟩
    obtain ⟨W2, ψ, R2, Er2, x2, nw⟩ := asg_fin (i := i) (m := m) R1 (Er.ext x1.bar) Er (fun p W2 h0 k k2 xx => Er.ext xx.bar) r1 x1
    have h2' := RunS.later h2 ⟨R2, x2, nw⟩
    have Er1 : EnvR (gm X) (Bar W2 Z) (φ ++ ψ) H1 env σ := (Er.ext x2.bar).app ψ
    refine ⟨W2, Z, φ ++ ψ, env, _, R2, Er1, (RunS.bind0 h2').imp2 (fun u H2 ⟨W3, M3, y', _, R3, x3, r3, h4⟩ => ?_) (fun c d H' q => q σ rfl)⟩
    obtain ⟨W4, ψ2, R4, Er4, x4, nw4⟩ := asg_fin (i := j) (m := n) R3 (Er2.ext x3.bar) Er2 (fun p W2 h0 k k2 xx => Er2.ext xx.bar) r3 x3
    have h4' := RunS.later h4 ⟨R4, x4, nw4⟩
    have Er3 : EnvR (gm X) (Bar W4 Z) (φ ++ ψ ++ ψ2) H2 env σ := (Er1.ext x4.bar).app ψ2
    refine ⟨W4, Z, φ ++ ψ ++ ψ2, env, _, R4, Er3, (RunS.bind0 h4').imp2 (fun w H3 ⟨W5, M5, z', _, R5, x5, r5, h6⟩ => ⟨v, u, w, rfl, ?_⟩) (fun c d H' q => q σ rfl)⟩
    obtain ⟨W6, ψ3, R6, Er6, x6, nw6⟩ := asg_fin (i := l) (m := o) R5 (Er4.ext x5.bar) Er4 (fun p W2 h0 k k2 xx => Er4.ext xx.bar) r5 x5
    exact h6 W6 ψ3 H3 _ ⟨R6, x6, nw6⟩ Er6 (by simp)
end

/-! ### x op= e -/
def inop : Operator → AV → AV → Mem → Out AV
  | .Add, .d (.int i), .d (.int j), M => .ok (.d (.int (i + j))) M
  | .Add, .d (.str x), .d (.str y), M => guard (decide (x.length + y.length ≤ sizeLine)) (.ok (.d (.str (x ++ y))) M)
  | .Sub, .d (.int i), .d (.int j), M => .ok (.d (.int (i - j))) M
  | .Mult, .d (.int i), .d (.int j), M => guard (decide (-(2 ^ 64) < i ∧ i < 2 ^ 64 ∨ -(2 ^ 64) < j ∧ j < 2 ^ 64)) (.ok (.d (.int (i * j))) M)
  | .FloorDiv, .d (.int i), .d (.int j), M => guard (decide (0 < j ∧ j < 1073741824)) (.ok (.d (.int (i / j))) M)
  | _, _, _, _ => .bad
def rIn2 : Operator → R2
  | .Add => fun x y H Q => (∃ i j, x = .int i ∧ y = .int j ∧ Q (.int (i + j)) H) ∨ (∃ i j, x = .str i ∧ y = .str j ∧ i.length + j.length ≤ sizeLine ∧ Q (.str (i ++ j)) H)
  | .Sub => rI0 fun i j => .int (i - j)
  | .Mult => rI CMul fun i j => .int (i * j)
  | .FloorDiv => rI CDiv fun i j => .int (i / j)
  | _ => fun _ _ _ _ => False
theorem rIn2_ok {X : Cx} : ∀ op : Operator, PIp X op (rIn2 op)
  | .Add => fun pins s σ H x y v u Q I rx ry q => (OpR.or (iop_add (X := X)) iop_add_str) pins s σ H x y v u Q I rx ry q
  | .Sub => fun pins s σ H x y v u Q I rx ry q => iop_sub pins s σ H x y v u Q I rx ry q
  | .Mult => fun pins s σ H x y v u Q I rx ry q => iop_mul pins s σ H x y v u Q I rx ry q
  | .FloorDiv => fun pins s σ H x y v u Q I rx ry q => iop_fdiv pins s σ H x y v u Q I rx ry q
  | .MatMult => fun _ _ _ _ _ _ _ _ _ _ _ _ h => h.elim
  | .Div => fun _ _ _ _ _ _ _ _ _ _ _ _ h => h.elim
  | .LShift => fun _ _ _ _ _ _ _ _ _ _ _ _ h => h.elim
  | .RShift => fun _ _ _ _ _ _ _ _ _ _ _ _ h => h.elim
  | .BitOr => fun _ _ _ _ _ _ _ _ _ _ _ _ h => h.elim
  | .BitXor => fun _ _ _ _ _ _ _ _ _ _ _ _ h => h.elim
  | .BitAnd => fun _ _ _ _ _ _ _ _ _ _ _ _ h => h.elim
  | .Mod => fun _ _ _ _ _ _ _ _ _ _ _ _ h => h.elim
  | .Pow => fun _ _ _ _ _ _ _ _ _ _ _ _ h => h.elim
theorem inop_run {G : Gm} {W Z : Addr → Prop} {φ : List Addr} {H : Hp} {M : Mem} {Q : VK} {E : XK} {v u : V} {op : Operator} {a b : AV} (R : Rel G W Z φ M H) (o1 : SR G (Bar W Z) φ H a v) (o2 : SR G (Bar W Z) φ H b u)
    (h : Run G Z φ W H (inop op a b M) Q E) : rIn2 op v u H Q := by
  unfold inop at h
  split at h
  · cases o1; cases o2; exact .inl ⟨_, _, rfl, rfl, Run.ok R h (.int _) (fun _ z => by cases z)⟩
  · obtain ⟨g, h⟩ := guard_run (P := fun r => Run G Z φ W H r Q E) h (fun z => z)
    cases o1; cases o2; exact .inr ⟨_, _, rfl, rfl, of_decide_eq_true g, Run.ok R h (.str _) (fun _ z => by cases z)⟩
  · cases o1; cases o2; exact ⟨_, _, rfl, rfl, Run.ok R h (.int _) (fun _ z => by cases z)⟩
  · obtain ⟨g, h⟩ := guard_run (P := fun r => Run G Z φ W H r Q E) h (fun z => z)
    have g' := of_decide_eq_true g
    cases o1; cases o2; exact ⟨_, _, rfl, rfl, g', Run.ok R h (.int _) (fun _ z => by cases z)⟩
  · obtain ⟨g, h⟩ := guard_run (P := fun r => Run G Z φ W H r Q E) h (fun z => z)
    have g' := of_decide_eq_true g
    cases o1; cases o2; exact ⟨_, _, rfl, rfl, g', Run.ok R h (.int _) (fun _ z => by cases z)⟩
  · exact h.elim
theorem inop_res {op : Operator} {a b : AV} {M M' : Mem} {av : AV} (h : inop op a b M = .ok av M') : M' = M ∧ ∀ xs, av ≠ .fr xs := by
  unfold inop guard at h
  split at h <;> (try split at h) <;> first | (cases h; exact ⟨rfl, fun _ z => by cases z⟩) | cases h
def sAug (i : Nat) (op : Operator) (f : SE) : SS := fun env M => match env[i]? with
  | some (some x) => (f env M).bind fun y M1 => (inop op x y M1).bind fun z M2 => .ok (.next (env.set i (some z))) M2
  | _ => .bad
def sAugI (op : Operator) (fo fi fe : SE) : SS := fun env M => (fo env M).bind fun o M1 => (fi env M1).bind fun k M2 => match k, lstOf M2 o with
  | .d (.int k), some xs => match atI xs k with
    | some x => (fe env M2).bind fun y M3 => match inop op (.d x) y M3 with
      | .ok (.d z) M4 => match cellOf? M4 o with
        | some (c, xs) => match ixN xs.length k with
          | some j => .ok (.next env) (M4.set c (some (.l (xs.set j z))))
          | none => .bad
        | none => .bad
      | _ => .bad
    | none => .bad
  | _, _ => .bad
section
variable {X : Cx} {E : WX} {o i e : Expr} {f fo fi fe : SE} {pos pos' tpos : Pos}
theorem gs_aug {i : Nat} {x : Str} {op : Operator} (hN : X.N.Nodup) (hi : X.N[i]? = some x) (hx : Loc X.env.scope x) (he : GE X E e f) (hf : X.fn x = true ∨ X.env.scope.names.lookup x = some .local) : GS X E (.AugAssign (.Name x pos') op e pos) (sAug i op f) :=
  PS.imp (ps_aug hN hi hx he (rIn2_ok op) hf) fun De σ H ⟨W, Z, φ, env, M, R, Er, h⟩ => by
    unfold sAug at h
    split at h
    · rename_i av ea
      obtain ⟨v, e1, r⟩ := Er.at_ i av ea
      refine ⟨v, e1, W, Z, φ, env, M, R, Er, (RunS.bind h).imp2 (fun u H1 ⟨W1, M1, y, _, R1, x1, r1, h2⟩ => ?_) (fun c d H' q => q σ rfl)⟩
      refine inop_run (op := op) (a := av) (b := y) (E := fun _ _ _ => False) R1 (r.ext x1.bar) r1.sr ?_
      cases eo : inop op av y M1 with
      | bad => rw [eo] at h2; exact h2.elim
      | exc _ _ => unfold inop guard at eo; split at eo <;> (try split at eo) <;> cases eo
      | ok z M2 =>
        rw [eo] at h2
        obtain ⟨rfl, nf⟩ := inop_res eo
        intro W' H' w R' x' r'
        exact h2 W' [] H' _ (Fin.of R' x') (by simpa using ((Er.ext x1.bar).ext x'.bar).set r'.sr i) (by simp)
    · exact h.elim
theorem gs_augI {op : Operator} (ho : GE X E o fo) (hi : GE X E i fi) (he : GE X E e fe) (ha : ∀ ov iv new, augStore i ov iv new = (do holding [new, ov, iv] (setItem ov iv new); release [new, ov, iv] []; pure .next)) :
    GS X E (.AugAssign (.Subscript o i tpos) op e pos) (sAugI op fo fi fe) :=
  PS.imp (ps_augS ho hi (get_list (p := 0)) he (rIn2_ok op) set_list ha) fun De σ H ⟨W, Z, φ, env, M, R, Er, h⟩ => ⟨W, Z, φ, env, M, R, Er,
    (RunS.bind h).imp2 (fun v H1 ⟨W1, M1, o', _, R1, x1, r1, h2⟩ => ⟨W1, Z, φ, env, M1, R1, Er.ext x1.bar,
      (RunS.bind h2).imp2 (fun w H2 ⟨W2, M2, k', _, R2, x2, r2, h3⟩ => by
        cases k' with
        | d kk =>
          cases kk with
          | int k =>
            cases r2
            cases el : lstOf M2 o' with
            | none => rw [el] at h3; exact h3.elim
            | some xs =>
              rw [el] at h3
              dsimp only at h3
              cases ea : atI xs k with
              | none => rw [ea] at h3; exact h3.elim
              | some x =>
                rw [ea] at h3
                dsimp only at h3
                obtain ⟨p, vs, rfl, q1, q2, _⟩ := R2.lst (r1.sr.ext x2.bar) el
                obtain ⟨y, e1, ry⟩ := q2.atI ea
                refine ⟨p, vs, k, y, rfl, rfl, q1, e1, W2, Z, φ, env, M2, R2, (Er.ext x1.bar).ext x2.bar, (RunS.bind h3).imp2 (fun u H3 ⟨W3, M3, y', _, R3, x3, r3, h4⟩ => ?_) (fun c d H' q => q σ rfl)⟩
                refine inop_run (op := op) (a := .d x) (b := y') (E := fun _ _ _ => False) R3 (ry.ext x3.bar) r3.sr ?_
                cases eo : inop op (.d x) y' M3 with
                | bad => rw [eo] at h4; exact h4.elim
                | exc _ _ => unfold inop guard at eo; split at eo <;> (try split at eo) <;> cases eo
                | ok z M4 =>
                  obtain ⟨rfl, nf⟩ := inop_res eo
                  rw [eo] at h4
                  intro W' H' zv R' x' r'
                  cases z with
                  | d zd =>
                    dsimp only at h4
                    cases ec : cellOf? M4 o' with
                    | none => rw [ec] at h4; exact h4.elim
                    | some cx =>
                      obtain ⟨c, ys⟩ := cx
                      rw [ec] at h4
                      dsimp only at h4
                      cases ej : ixN ys.length k with
                      | none => rw [ej] at h4; exact h4.elim
                      | some j =>
                        rw [ej] at h4
                        obtain ⟨rfl, em⟩ := cellOf_ok ec
                        obtain ⟨p', ep, e'⟩ := r1.sr
                        cases e'
                        obtain ⟨_, us, hp, rus⟩ := R'.cell c p _ ep em
                        obtain ⟨R5, x5⟩ := R'.setCell ep em (rus.set r' j)
                        refine ⟨p, us, k, j, rfl, rfl, hp, by rw [← rus.length]; exact ej, ?_⟩
                        exact h4 W' [] _ σ ⟨by simpa using R5, x'.trans x5, fun _ z => by cases z⟩ (by simpa using ((((Er.ext x1.bar).ext x2.bar).ext x3.bar).ext x'.bar).ext x5.bar) rfl
                  | _ => exact h4.elim
          | _ => exact h3.elim
        | _ => exact h3.elim) (fun c d H' q => q σ rfl)⟩) (fun c d H' q => q σ rfl)⟩
end
end Mp

namespace PySem
namespace RefX
open PySem.W PySem.Calls PyProof.Rows PySem.HandSPX
/-! ### an own error whose __init__ says super().__init__(reason); self.reason = reason -/
def rA (p1 p2 : Pos) : Arguments := { posonlyargs := [], args := [{ arg := "self", annotation := none, pos := p1 }, { arg := "reason", annotation := none, pos := p2 }], vararg := none, kwonlyargs := [], kw_defaults := [], kwarg := none, defaults := [] }
def rS : Scope := { kind := .function, names := [(PySem.Str.ofString "self", .local), (PySem.Str.ofString "reason", .local), (PySem.Str.ofString "__class__", .free), (PySem.Str.ofString "super", .globalImplicit)], isGenerator := false, isCoroutine := false, more := [] }
def rB (p0 p1 p2 p3 p4 p5 q1 q2 q3 q4 : Pos) : List Stmt :=
  [.Expr (.Call (.Attribute (.Call (.Name "super" p0) [] [] p1) "__init__" p2) [.Name "reason" p3] [] p4) p5, .Assign [.Attribute (.Name "self" q1) "reason" q2] (.Name "reason" q3) q4]
/-- what the written part says of the class at C, of its __init__ at fI -/
structure RefTxt (P : Program) (K : Frag) (mg : Str → Option Value) (nC : Str) (C fI : Addr) : Prop where
  gC : mg nC = some (.ref C)
  cls : ∃ nm q N bs bm sn sub ab col dd k0 k1 k2 k3 k5, K.lookup C = some (excClassObj nm q C N bs bm true sn sub ab col dd k0 k1 k2 k3 k5 "ValueError.__new__") ∧ refsVE bm = true
  sup : ks_superIn K C C "__init__" = some (some (.builtin "ValueError.__init__"))
  sub : mroIn K C (.ref C) = some true
  sVE : subIn K (.ref C) (.type "ValueError") = some true
  any : nsIn K cStatics "thirdparty.any" = some none
  gS : mg "super" = none
  sa : findIn K (.ref C) "__setattr__" = some (some (.builtin "object.__setattr__"))
  noN : findIn K (.ref C) "reason" = some none
  iC : findIn K (.ref C) "__init__" = some (some (.ref fI))
  tC : typeIn K (.ref fI) = some (.type "function")
  kC : keepIn K (.ref C) = true
  exC : subIn K (.ref C) (.type "BaseException") = some true
  tyC : typeIn K (.ref C) = some (.type "type")
  htop : (P.main.scope.names.lookup ("super" : Str)).isSome = false
  fn : ∃ (oc : Value) (od : Option Addr) (doc pm : Value) (an : Option Addr) (cda cc : Addr) (ct : Value) (osl : Array (Option Value)) (p1 p2 q0 q1 q2 q3 q4 q5 r1 r2 r3 r4 : Pos) (qn : Str),
    K.lookup fI = some ⟨oc, od, .func (ksFn "__init__" qn (rA p1 p2) (rB q0 q1 q2 q3 q4 q5 r1 r2 r3 r4) rS .none .none doc pm an (.ref cda) ct cc), osl⟩ ∧ (q2.endLine == q4.line) = true ∧ codeIn K (.ref cda) qn = true ∧
    (∃ (ccl : Value) (cdd : Option Addr) (vs : Array Value) (ccs : Array (Option Value)) (file : Str) (tf : Tok), K.lookup cda = some ⟨ccl, cdd, .fields vs, ccs⟩ ∧ vs[2]? = some (.str file tf) ∧ ((P.main.file : Str) == file) = true) ∧
    ∃ (cl : Value) (cld : Option Addr) (csl : Array (Option Value)), K.lookup cc = some ⟨cl, cld, .cell (some (.ref C)), csl⟩
theorem one_size (v : Value) : [v].length ≤ sizeLine := by
  rw [sizeLine_eq]
  exact (by decide : 1 ≤ 16777216)
/-- what __init__ leaves of a fresh exception at x -/
structure InitEnd (h h' : Heap) (x C dx t1 : Addr) (v : Value) : Prop where
  keep : ∀ b o, b ≠ x → h.get? b = some o → h'.get? b = some o
  obj : h'.get? x = some { cls := .ref C, dict := some dx, data := .fields #[.ref t1, .none, .none, .none, .bool false, .none] }
  dbig : h.objs.size ≤ dx
  dne : dx ≠ x
  ns : h'.Ns1 dx (fun y => if y = "reason" then some v else none)
structure OwnMade (h h' : Heap) (e C d : Addr) (v : Value) : Prop where
  keep : ∀ b o, h.get? b = some o → h'.get? b = some o
  new : h.objs.size ≤ e
  obj : ∃ oe vs, h'.get? e = some oe ∧ oe.cls = .ref C ∧ oe.dict = some d ∧ oe.data = .fields vs ∧ vs[1]? = some .none
  dbig : h.objs.size ≤ d
  dne : d ≠ e
  ns : h'.Ns1 d (fun y => if y = "reason" then some v else none)
section
variable {prog : Program} {w : World} {A : Around} {E : Value → Shared → Prop} {h : Heap} {g : Array GenState} {d : Drawn} {t : Nat} {os : OsState}
variable {nm q : Str} {C N : Addr} {bs bm : List Value} {hdct : Bool} {sn : List Str} {sub : List Value} {ab : Bool} {col : Option Bool} {dd : Option Addr} {k0 k1 k2 k3 k5 : Option Value}
theorem call_bw {u e t0 : Addr} {rest : List Value} {Q : Value → Shared → Prop}
    (hC : h.get? C = some (excClassObj nm q C N bs bm hdct sn sub ab col dd k0 k1 k2 k3 k5 "ValueError.__new__")) (he : h.get? e = some (HandSPX.excO C t0)) (hu : h.get? u = some (kxs_mw "ValueError.__init__" e)) (hrest : rest.length ≤ sizeLine)
    (hq : ∀ h' t1, (∀ b o, b ≠ e → h.get? b = some o → h'.get? b = some o) → h'.get? e = some (HandSPX.excO C t1) → Q .none ⟨h', g, d, t, os⟩) :
    wpAny (model prog w) A (call (.ref u) rest) Q E ⟨h, g, d, t, os⟩ := by
  refine wpAny_call (codeAny_of_tree ?_)
  show wpAny _ A.in1 (callAny (.ref u) ⟨rest, []⟩) _ _ _
  simp only [callAny]
  refine wpAny_bind (wpAny_load hu ?_)
  simp only [kxs_mw, show (Value.type "method-wrapper" == Value.type "method" || Value.type "method-wrapper" == Value.type "builtin_function_or_method" || Value.type "method-wrapper" == Value.type "method-wrapper") = true by decide, if_true]
  refine W.KFB.if_so (by decide) ?_
  refine wpAny_bind (W.check_bound_init F.excBase_ValueError.toExcCallFacts hC he rfl ?_)
  refine wpAny_bind (wpAny_pure (wpAny_pure ?_))
  refine ⟨Code.quiet_builtin _ (by decide +kernel), codeAny_builtin F.excBase_ValueError.initEntry ?_⟩
  rw [Around.under_plainId F.excBase_ValueError.init.plain _]
  wp_walk
  refine hq _ h.objs.size (fun b o hb ho => ?_) ?_
  · rw [Heap.get?_update_other _ _ (Ne.symm hb)]
    exact Heap.get?_push_of_some _ ho
  · rw [Heap.get?_update_self _ (Heap.get?_push_of_some _ he) rfl]
    rfl
end
section
variable {prog : Program} {w : World} {A : Around} {E : Value → Shared → Prop} {R : Result → Shared → Prop} {s : Shared} {K : Frag} {mg : Str → Option Value} {nC : Str} {C fI : Addr}
theorem ldX {M : Model} {s : Shared} {env : Env} {m : Str → Option Value} {x : Str} {pos : Pos} {v : Value} {Q : Value → Shared → Prop} {A : Around} {E : Value → Shared → Prop} (hn : s.heap.Ns env.locals m) (hv : m x = some v) (h : Q v s)
    (hk : env.scope.kind = .function := by rfl) (hl : env.kindOf x = some .local := by rfl) (hd : (x == ("__debug__" : Str)) = false := by decide) :
    wpAny M A (eval (.Name x pos) env) Q E s := wpAny_Name (wpAny_loadName_local hk hl hn hv h) hd
theorem super_he {o e : PySem.Expr} {name : Str} {apos pos : Pos} {env : Env} (hline : (apos.endLine == pos.line) = true) (hs : starEach [e] env = [(false, eval e env)]) :
    eval (.Call (.Attribute o name apos) [e] [] pos) env = (do
      let ov ← attributeBase o name env (eval o env)
      standAt apos.atName
      let (f, first) ← holding [ov] (getMethod ov name (do return (← importBound o env).getD true))
      callWith pos f first (backTo pos (starEach [e] env)) []) := by
  rw [arm_eval_Call]
  have hform : methodCallForm ([e].length + ([] : List Keyword).length) (backTo pos (starEach [e] env)) (backToKw pos (keywordEach [] env)) = true := by rw [hs]; rfl
  have hpos : methodCallPos true o env apos pos = pure pos := by unfold methodCallPos; simp [hline]
  unfold methodCall
  rw [hform, hpos]
  rfl
theorem ref_init (T : RefTxt prog K mg nC C fI) {x t0 : Addr} {v : Value} (X : K.In s.heap) (hlim : s.heap.NoLimit) (hg : s.heap.Ns mainGlobals mg) (hb : ∃ mb, s.heap.Ns builtinsNs mb ∧ ∀ x : Str, x ≠ "__name__" → mb x = bootBuiltins x)
    (hx : s.heap.get? x = some (excO C t0)) (hnx : K.lookup x = none) (hroom : A.depth < recursionLimit)
    (hq : ∀ h' tk dx t1, InitEnd s.heap h' x C dx t1 v → R (.ok (.ret .none)) { s with heap := h', toks := tk }) :
    codeAny (model prog w) A (.call (.ref fI) ⟨[.ref x, v], []⟩) R s := by
  obtain ⟨oc, od, doc, pm, an, cda, cc, ct, osl, p1, p2, q0, q1, q2, q3, q4, q5, r1, r2, r3, r4, qn, ho, hline, hcd, ⟨ccl, cdd, cvs, ccs, file, tf, hco, hvs, hfile⟩, cl, cld, csl, hcell⟩ := T.fn
  obtain ⟨nm, q, N, bs, bm, sn, sub, ab, col, dd, k0, k1, k2, k3, k5, hC, hbm⟩ := T.cls
  obtain ⟨mb, hb, hmb⟩ := hb
  have hcl : clsIn K C = some { name := nm, bases := bs, mro := .ref C :: bm, ns := N, qualname := q, hasDict := true, slotNames := sn, subclasses := sub, abstract := ab, collection := col, hasDel := false } := by unfold clsIn; rw [hC] <;> rfl
  refine ks_codeAny_call_defAt (fd := ksFn "__init__" qn (rA p1 p2) (rB q0 q1 q2 q3 q4 q5 r1 r2 r3 r4) rS .none .none doc pm an (.ref cda) ct cc) (body := rB q0 q1 q2 q3 q4 q5 r1 r2 r3 r4) (binds := [("self", .ref x), ("reason", v)])
    hroom (X _ _ ho) rfl hlim (codeRec_of X hcd) rfl (BindsTo.of_eq (by first | rfl | with_unfolding_all rfl)) (show ∀ x ∈ rS.names, x.2 ≠ NameKind.cell by decide) (by first | (intro y hy; simp at hy; rcases hy with rfl | rfl <;> rfl) | decide) (fun h₁ hn hk₁ => ?_)
  have X₁ : K.In h₁ := X.keeps hk₁
  have hx₁ := hk₁ _ _ hx
  have hxC : x ≠ C := fun e => by
    have z : s.heap.get? C = _ := X _ _ hC
    rw [← e, hx] at z
    cases z
  obtain ⟨hh, g, dr, tk, os⟩ := s
  show wpAt _ (A.deeper (ksEnv qn rS hh.objs.size fI (.ref cda) cc)) (.func (rB q0 q1 q2 q3 q4 q5 r1 r2 r3 r4) (ksEnv qn rS hh.objs.size fI (.ref cda) cc)) (execs (rB q0 q1 q2 q3 q4 q5 r1 r2 r3 r4) (ksEnv qn rS hh.objs.size fI (.ref cda) cc)) _ _ _
  refine ks_wpAt_execs_cons (ks_wpAt_Expr_any (ks_wpAt_MethodCall (he := super_he hline rfl) ?_))
  refine ks_wpAt_super_base rfl rfl rfl rfl (X₁ _ _ ho) rfl rfl rfl (X₁ _ _ hco) rfl hvs hfile T.htop ?_
  refine ks_loadName_global rfl rfl (loadGlobal_builtin (hg.keeps hk₁) T.gS (hb.keeps hk₁) ((hmb _ (by decide +kernel)).trans (by first | boot_by_name | rfl | kernel_rfl)) ⟨rfl, ?_⟩)
  refine wpAny_loadName_free rfl rfl rfl ⟨_, X₁ _ _ hcell, rfl⟩ ?_
  refine wpAny_loadName_local rfl rfl hn (v := .ref x) (by first | rfl | with_unfolding_all rfl | kernel_rfl) ?_
  refine ks_wpAny_isType_cls (X₁ _ _ hC) rfl ⟨rfl, ?_⟩
  refine ks_wpAny_call_super (X₁ _ _ hC) rfl hx₁ rfl (fun c e => by cases e) (looks_mroIn X₁ T.sub) (fun h₂ hso k₂ => ?_)
  have X₂ : K.In h₂ := X₁.keeps k₂
  have I₂ : InstAt h₂ x (excO C t0) C none := ⟨k₂ _ _ hx₁, rfl, rfl, trivial⟩
  have hsup := T.sup
  unfold ks_superIn at hsup
  rw [hcl] at hsup
  refine kxs_getMethod kxs_ValueError hso (looks_opaque X₂ T.any) (l₀ := .ref C :: bm) (fun A Q E s k q => wpAny_bind ((looks_clsIn X₂ hcl) A _ E s k (wpAny_pure q))) rfl X₂ hsup (I₂.type.andThen (looks_subIn X₂ T.sVE)) hxC (by decide) ?_
  dsimp only
  have hu : (h₂.push (kxs_mw "ValueError.__init__" x)).get? h₂.objs.size = some (kxs_mw "ValueError.__init__" x) := Heap.get?_push_at rfl rfl
  have k₃ : ∀ b o, h₂.get? b = some o → (h₂.push (kxs_mw "ValueError.__init__" x)).get? b = some o := fun b o e => Heap.get?_push_of_some _ e
  refine kxs_callWith (i := "ValueError.__init__") (x := x) (by rfl) (evalArgs_plain ?_)
  refine spliced_more (e := .Name "reason" q3) (rest := []) (env := ksEnv qn rS hh.objs.size fI (.ref cda) cc) (pos := q4) ?_
  refine ldX (v := v) (hn.keeps fun b o e => k₃ b o (k₂ b o e)) (by first | rfl | with_unfolding_all rfl | kernel_rfl) ?_
  refine spliced_none ⟨hu, ?_⟩
  show wpAny _ _ (call _ [v]) _ _ _
  have X₃ : K.In (h₂.push (kxs_mw "ValueError.__init__" x)) := X₂.keeps k₃
  refine call_bw (X₃ _ _ hC) (k₃ _ _ (k₂ _ _ hx₁)) hu (one_size v) (fun h₄ t1 k₄ hx₄ => ?_)
  have nL : hh.objs.size ≠ x := Nat.ne_of_gt (Heap.lt_size hx)
  have X₄ : K.In h₄ := fun b o e => k₄ b o (fun z => by rw [z, hnx] at e; cases e) (X₃ b o e)
  have hn₄ : h₄.Ns hh.objs.size (fun y => ([("self", Value.ref x), ("reason", v)] : List (Str × Value)).reverse.lookup y) := by
    obtain ⟨oL, es, ep, hL, r⟩ := hn
    exact ⟨oL, es, ep, k₄ _ _ nL (k₃ _ _ (k₂ _ _ hL)), r⟩
  refine wpAt_of_wpAny ?_
  show wpAny _ _ (execs _ _) _ _ _
  refine wpAny_execs_cons (plainObj_wpAny_Assign_Attribute ?_)
  refine ldX (v := v) hn₄ (by first | rfl | with_unfolding_all rfl | kernel_rfl) (ldX (v := .ref x) hn₄ (by first | rfl | with_unfolding_all rfl | kernel_rfl) ?_)
  refine set_plain X₄ (ox := excO C t1) (od := none) ⟨hx₄, rfl, rfl, trivial⟩ T.sa ?_
  refine exc_osa X₄ hx₄ hcl (show refsVE (.ref C :: bm) = true from hbm) rfl T.noN (fun h₅ tk₅ dx k₅ dn dne hx₅ hn₅ => ?_)
  show wpAny _ _ (execs _ _) _ _ _
  have kk : ∀ b o, b ≠ x → hh.get? b = some o → h₅.get? b = some o := fun b o n e => k₅ b o n (k₄ b o n (k₃ b o (k₂ b o (hk₁ b o e))))
  refine wpAny_execs_nil (hq h₅ tk₅ dx t1 ⟨kk, hx₅, ?_, dne, hn₅⟩)
  by_cases hd : hh.objs.size ≤ dx
  · exact hd
  · obtain ⟨oL, es, ep, hL, r⟩ := hn₄
    have y : hh.objs.size < h₄.objs.size := Heap.lt_size hL
    exact absurd (Nat.le_of_lt (Nat.lt_of_lt_of_le y dn)) hd
theorem ref_made (T : RefTxt prog K mg nC C fI) {v : Value} (X : K.In s.heap) (hlim : s.heap.NoLimit) (hg : s.heap.Ns mainGlobals mg) (hb : ∃ mb, s.heap.Ns builtinsNs mb ∧ ∀ x : Str, x ≠ "__name__" → mb x = bootBuiltins x) (hroom : A.depth + 1 < recursionLimit)
    (hq : ∀ h' tk e d, OwnMade s.heap h' e C d v → R (.ok (.ret (.ref e))) { s with heap := h', toks := tk }) :
    codeAny (model prog w) A (.call (.ref C) ⟨[v], []⟩) R s := by
  obtain ⟨nm, q, N, bs, bm, sn, sub, ab, col, dd, k0, k1, k2, k3, k5, hC, hbm⟩ := T.cls
  obtain ⟨hp, g, dr, tk, os⟩ := s
  have k : ∀ b o, hp.get? b = some o → ((hp.push (kdv_tup [v])).push (excO C hp.objs.size)).get? b = some o := fun b o e => Heap.get?_push_of_some _ (Heap.get?_push_of_some _ e)
  have hget : ((hp.push (kdv_tup [v])).push (excO C hp.objs.size)).get? (hp.objs.size + 1) = some (excO C hp.objs.size) := by heap_get
  have hnx : K.lookup (hp.objs.size + 1) = none := by
    cases e : K.lookup (hp.objs.size + 1) with
    | none => rfl
    | some o =>
      have z : hp.get? (hp.objs.size + 1) = some o := X _ _ e
      exact absurd (Nat.lt_of_succ_lt (Heap.lt_size z)) (Nat.lt_irrefl _)
  refine call_own F.excBase_ValueError (fun X => refsVE_contains X bm hbm) (X _ _ hC) (looks_findIn X T.iC) (fun self => bind_fn X self T.tC) (one_size v) ?_
  refine ref_init (s := ⟨(hp.push (kdv_tup [v])).push (excO C hp.objs.size), g, dr, tk, os⟩) T (X.keeps k) (hlim.keeps k) (hg.keeps k) (hb.imp fun _ z => ⟨z.1.keeps k, z.2⟩) hget hnx ?_ fun h' tk' dx t1 ⟨k', hx, dn, dne, hns⟩ => ?_
  · show A.depth + 1 < recursionLimit
    exact hroom
  · have old : ∀ b o, hp.get? b = some o → h'.get? b = some o := fun b o e => k' b o (Nat.ne_of_lt (Nat.lt_succ_of_lt (Heap.lt_size e))) (k b o e)
    have z : hp.objs.size + 1 + 1 ≤ dx := by
      first
        | (simpa only [Heap.size_push] using dn)
        | exact dn
        | (have q := dn; rw [Heap.size_push, Heap.size_push] at q; exact q)
    exact ⟨rfl, hq h' tk' (hp.objs.size + 1) dx ⟨old, Nat.le_succ _, ⟨_, _, hx, rfl, rfl, rfl, rfl⟩, Nat.le_trans (Nat.le_trans (Nat.le_succ _) (Nat.le_succ _)) z, dne, hns⟩⟩
end
end RefX
end PySem

namespace L2
open PySem PySem.Spec PyProof.Rows
theorem relO_ref {v : V} {v' : Value} (r : RelV v v') (f : Str) : RelO (List.lookup f [(("reason" : Str), v)]) (if f = "reason" then some v' else none) := by
  by_cases hw : f = "reason"
  · subst hw
    rw [if_pos rfl]
    have q : List.lookup ("reason" : Str) [(("reason" : Str), v)] = some v := by simp [List.lookup]
    rw [q]
    exact r
  · rw [if_neg hw]
    have qw : (f == ("reason" : Str)) = false := by simpa using hw
    have q2 : List.lookup f [(("reason" : Str), v)] = none := by simp [List.lookup, qw]
    rw [q2]
    trivial
section
variable {X : Cx} {C fI : Addr}
/-- Refused(e) -/
def tMkRef (C : Addr) (ta : TA) : St → Hp → XK → Prop := fun σ H Q => ta σ H fun vs H1 => ∃ v, vs = [v] ∧ ∀ d, H1 d = none → Q (.ref C) (some d) (upd H1 d (.xd [(("reason" : Str), v)]))
theorem pmk_ref {a : Expr} {ta : TA} {nC : Str} {p pos : Pos} {k : Nat} (T : PySem.RefX.RefTxt X.prog X.K X.mg nC C fI) (hr : Room k X.A) (ha : PA X [a] ta) (hg : Gl X nC) (hdb : (nC == ("__debug__" : Str)) = false)
    (he : starEach (a :: []) X.env = (false, eval a X.env) :: starEach [] X.env) (hpl : (backTo pos (starEach [] X.env)).any (·.1) = false := by rfl) :
    PMk X (.Call (.Name nC p) [a] [] pos) (tMkRef C ta) := by
  intro pins s σ H Q I h
  refine wpAny_Call_Name_kw (ld_glob I hg T.gC ?_ hdb)
  refine PySem.W.callWith_K (h₀ := X.base) I.ok.mod.kin T.kC (thn (ha.run pos pins s σ H _ I h) fun us s1 hh => ?_) he hpl
  obtain ⟨vs, H1, I1, r1, v, ev, q1⟩ := hh
  subst ev
  refine ⟨I1.kIn, ?_⟩
  cases r1 with
  | cons rv rn =>
    rename_i v' us'
    cases rn
    show wpAny _ _ (call (.ref C) [v']) _ _ _
    have hlim := I1.nolimit
    have hgl := I1.ok.mod.glob.keeps I1.bk
    have hbl : ∃ mb, s1.heap.Ns builtinsNs mb ∧ ∀ x : Str, x ≠ "__name__" → mb x = bootBuiltins x := I1.ok.mod.blt.imp fun _ z => ⟨z.1.keeps I1.bk, z.2⟩
    have kIn := I1.kIn
    obtain ⟨hp, g, dr, tk, os⟩ := s1
    refine wpAny_call (PySem.RefX.ref_made T kIn hlim hgl hbl (by have := hr.dp; omega) fun h' tk' e d M => ?_)
    show MkP X pins σ Q (.ref e) ⟨h', g, dr, tk', os⟩
    obtain ⟨oe, fv, hoe, hc, hd, hdat, h1⟩ := M.obj
    have hns := M.ns
    obtain ⟨G', g1, g2⟩ := restrict h' fun b => decide (b ≠ e)
    have gk : ∀ b, b ≠ e → G'.get? b = h'.get? b := fun b hb => g1 b (decide_eq_true hb)
    have ge : G'.get? e = none := g2 e (by simp)
    have old : ∀ b o, hp.get? b = some o → G'.get? b = some o := fun b o q => (gk b (Nat.ne_of_lt (Nat.lt_of_lt_of_le (Heap.lt_size q) M.new))).trans (M.keep b o q)
    have ob : ObjOk X.prog X.w (upd H1 d (.xd [(("reason" : Str), v)])) G' d (.xd [(("reason" : Str), v)]) :=
      ⟨_, hns.at (fun o q => (gk d M.dne).trans q), fun f => relO_ref rv f⟩
    have J : Inv X pins σ (upd H1 d (.xd [(("reason" : Str), v)])) ⟨G', g, dr, tk', os⟩ := I1.laid (t' := tk') old M.dbig ob
    refine ⟨e, oe, fv, ⟨G', g, dr, tk', os⟩, _, .ref C, some d, rfl, J, fun b o q => ?_, ge, hoe, ⟨hc, hd⟩, hdat, h1, ?_, rfl, I1.bare, raises_own T.exC T.tyC, q1 d (I1.hok.fresh M.dbig)⟩
    · by_cases hb : b = e
      · have q' : G'.get? b = some o := q
        rw [hb, ge] at q'; cases q'
      · exact (gk b hb).symm.trans q
    · rw [upd_ne (Ne.symm M.dne)]
      exact I1.hok.fresh M.new
end
end L2

namespace L2
open PySem PySem.Spec PyProof.Rows
/-! ### several except clauses, with or without a name -/
def wMix (K : PySem.W.Frag) (Wout : WX) (D : Ends) : List (Value × Option Nat × (Addr → Value → Option Addr → TS)) → WX
  | [] => Wout
  | (c, none, ts) :: r => fun cls d σ H => ∃ b, PySem.W.exmOne K cls c = some b ∧ (b = true → ∀ a, H a = none → ts a cls d D σ H) ∧ (b = false → wMix K Wout D r cls d σ H)
  | (c, some i, ts) :: r => fun cls d σ H => ∃ b, PySem.W.exmOne K cls c = some b ∧
      (b = true → ∀ a, H a = none → ts a cls d { nx := fun σ' H' => D.nx (σ'.set i none) H', rt := D.rt, bk := fun σ' H' => D.bk (σ'.set i none) H', ct := fun σ' H' => D.ct (σ'.set i none) H' } (σ.set i (some (.ref a))) H) ∧
      (b = false → wMix K Wout D r cls d σ H)
inductive HdsMx (X : Cx) : List ExceptHandler → List (Value × Option Nat × (Addr → Value → Option Addr → TS)) → Prop
  | nil : HdsMx X [] []
  | cons {x : Str} {c : Value} {ts : Addr → Value → Option Addr → TS} {b₀ : Stmt} {suite : List Stmt} {np pos' : Pos} {hds : List ExceptHandler} {l : List (Value × Option Nat × (Addr → Value → Option Addr → TS))} (hc : Names X x c)
      (hsu : ∀ (a : Addr) (oe : Obj) (cls : Value) (d : Option Addr) (pn : List (Addr × Obj)), Zc cls d oe → (∃ vs, oe.data = .fields vs) → PSs (X.suite a ((a, oe) :: pn)) (b₀ :: suite) (ts a cls d)) (r : HdsMx X hds l) :
      HdsMx X (.ExceptHandler (some (.Name x np)) none (b₀ :: suite) pos' :: hds) ((c, none, ts) :: l)
  | consA {x n : Str} {i : Nat} {c : Value} {ts : Addr → Value → Option Addr → TS} {b₀ : Stmt} {suite : List Stmt} {np pos' : Pos} {hds : List ExceptHandler} {l : List (Value × Option Nat × (Addr → Value → Option Addr → TS))} (hc : Names X x c)
      (hN : X.N.Nodup) (hi : X.N[i]? = some n) (hln : X.env.kindOf n = some .local)
      (hsu : ∀ (a : Addr) (oe : Obj) (cls : Value) (d : Option Addr) (pn : List (Addr × Obj)), Zc cls d oe → (∃ vs, oe.data = .fields vs) → PSs (X.suite a ((a, oe) :: pn)) (b₀ :: suite) (ts a cls d)) (r : HdsMx X hds l) :
      HdsMx X (.ExceptHandler (some (.Name x np)) (some n) (b₀ :: suite) pos' :: hds) ((c, some i, ts) :: l)
section
variable {X : Cx} {body : List Stmt} {h₀ : ExceptHandler} {hds : List ExceptHandler} {l : List (Value × Option Nat × (Addr → Value → Option Addr → TS))} {pos : Pos} {tb : WX → TS} {Wout : WX}
theorem ps_try_mix (hs : X.stack = X.env :: X.outer) (hf : X.env.frame = some X.env.locals) (tk : Takes X Wout)
    (hb : ∀ (W : WX) (pn : List (Addr × Obj)) (xe : Value → Shared → Prop), Takes (X.tr pn xe) W → PassesOwn (model X.prog X.w) X.A X.env xe → PSs (X.tr pn xe) body (tb W))
    (hh : HdsMx X (h₀ :: hds) l) : PS X (.Try body (h₀ :: hds) [] [] pos) (fun D σ H => tb (wMix X.K Wout D l) D σ H) := by
  refine ⟨fun pins s σ H D I h => ?_⟩
  have ok := I.ok
  have hfr : X.A.frames = some (X.env :: X.outer) := by rw [ok.frames, hs]
  refine wpAny_Try_except ?_
  refine wpAny_mono ((hb (wMix X.K Wout D l) (X.pn ++ pins) (fun e s₁ => wpAny (model X.prog X.w) X.A (noteFrame e X.env) (fun _ s₂ => wpAny (model X.prog X.w) X.A (setFlight e none) (fun _ s₃ =>
    wpAny (model X.prog X.w) X.A (handleBy e X.env (h₀ :: hds)) (SP X pins D) X.xe s₃) X.xe s₂) X.xe s₁) (fun u s' xx => ?_) PassesOwn.looking).run [] s σ H D (I.toTry _) h) (fun f s1 hsp => ?_) (fun e s1 he => he)
  · -- the catch
    obtain ⟨a, B, sI, pins', σ', H', cls, d, rfl, J', nb, up, sky, na, os, ag, w⟩ := xx
    have J : Inv X pins σ' H' sI := J'.ofTry ok
    have sky' : Sky B (X.env :: X.outer) a (Zc cls d) X.env.locals s'.heap := by rw [← hs]; exact sky
    show wpAny (model X.prog X.w) X.A (noteFrame (.ref a) X.env) _ _ _
    refine Sky.land Zc.steady hfr hf sky' fun h3 fl3 up3 => ?_
    have J3 : Inv X pins σ' H' { s' with heap := h3 } := J.landed nb fl3.1 (up.trans up3) os ag
    obtain ⟨oe3, vs3, he3, hz3, hd3⟩ := fl3.there
    have notFr : ∀ {h : Heap} {o : Obj} {vs : Array Value}, h.FunFrames B (X.env :: X.outer) → h.get? a = some o → o.data = .fields vs → a ∉ frs (X.env :: X.outer) := fun {h o vs} ff e dd hm => by
      obtain ⟨_, o', e', hnf⟩ := ff.mem hm
      rw [e] at e'; cases e'
      exact hnf _ dd
    have nfr := notFr fl3.2.2.1 he3 hd3
    have nL : a ≠ X.env.locals := fun z => nfr (List.mem_filterMap.mpr ⟨X.env, List.mem_cons_self, by rw [hf, z]⟩)
    have nF : a ∉ X.fs := fun hm => by
      obtain ⟨e, he, q⟩ := List.mem_filterMap.mp hm
      exact nfr (List.mem_filterMap.mpr ⟨e, List.mem_cons_of_mem _ he, q⟩)
    have S3 := J3.suite he3 hd3 na nL nF
    have LT : PySem.W.Looks (model X.prog X.w) h3 (typeOf (.ref a)) cls := fun A Q E s k q => wpAny_typeOf_ref (k _ _ he3) (by rw [hz3.1]; exact q)
    have test : ∀ {x : Str} {np : Pos} {c : Value} {Q : Value → Shared → Prop} {E : Value → Shared → Prop}, Names X x c → Q c { s' with heap := h3 } → wpAny (model X.prog X.w) (X.A.mark (some (.ref a))) (eval (.Name x np) X.env) Q E { s' with heap := h3 } := fun {x np c Q E} hc q => by
      obtain ⟨hg, hdbg, hm | ⟨hm, hv, hnn⟩⟩ := hc
      · exact ld_glob (X := X.suite a ((a, oe3) :: (X.pn ++ pins))) S3 hg hm q hdbg
      · exact ld_blt (X := X.suite a ((a, oe3) :: (X.pn ++ pins))) S3 hg hm hv q hnn hdbg
    have go : ∀ {hds' : List ExceptHandler} {l' : List (Value × Option Nat × (Addr → Value → Option Addr → TS))}, HdsMx X hds' l' → wMix X.K Wout D l' cls d σ' H' →
        wpAny (model X.prog X.w) X.A (handleBy (.ref a) X.env hds') (SP X pins D) X.xe { s' with heap := h3 } := by
      intro hds' l' hk
      induction hk with
      | nil =>
        intro w
        refine wpAny_handleBy_nil ?_
        obtain ⟨k1, k2, k3, oe, vs, T, oT, ts', he, hz, hd, h1, hr⟩ := id fl3
        unfold PySem.passOn
        refine wpAny_bind (wpAny_field he hd h1 ?_)
        rw [if_neg (show ¬ ((Value.ref T == Value.none) = true) from by simp)]
        have fin : wpAny (model X.prog X.w) X.A (setFlight (.ref a) X.env.frame) (fun _ s4 => wpAny (model X.prog X.w) X.A (throw (.ref a) : Sem Flow) (SP X pins D) X.xe s4) X.xe { s' with heap := h3 } := by
          rw [hf]
          refine HandSPX.setFlight_upZ fl3 fun h4 hh4 up4 => wpAny_throw (tk _ _ ?_)
          exact ⟨a, B, sI, pins, σ', H', cls, d, rfl, J, nb, (up.trans up3).trans up4, .inr (.inr (by rw [hs]; exact hh4)), na, os, ag, w⟩
        first
          | exact wpAny_bind (wpAny_pure (wpAny_bind fin))
          | exact wpAny_bind fin
      | @cons x c ts b₀ suite np pos' hds2 l2 hc hsu r ih =>
        intro w
        obtain ⟨b, hb1, hyes, hno⟩ := w
        refine wpAny_handleBy_cons (codeAny_handlers_test ?_) (by intro q; cases q)
        have LM := PySem.W.exm_one (M := model X.prog X.w) (J3.kIn) LT hb1
        refine test hc (LM.here ?_)
        cases b with
        | true =>
          refine codeAny_handlers_suite ?_
          refine HandSPX.lands_againZ fl3 fun h4 fl4 up4 => ?_
          have J4 : Inv X pins σ' H' { s' with heap := h4 } := J.landed nb fl4.1 ((up.trans up3).trans up4) os ag
          obtain ⟨oe4, vs4, he4, hz4, hd4⟩ := fl4.there
          have S4 := J4.suite he4 hd4 na nL nF
          refine wpAny_mono ((hsu a oe4 cls d (X.pn ++ pins) hz4 ⟨_, hd4⟩).run [] _ _ H' _ S4 (hyes rfl a na)) (fun f s6 hsp => ?_) (fun _ _ z => False.elim z)
          cases f with
          | next =>
            obtain ⟨σ6, H6, S6, q6⟩ := hsp
            exact ⟨_, _, S6.unsuite ok, q6⟩
          | brk =>
            obtain ⟨σ6, H6, S6, q6⟩ := hsp
            exact ⟨_, _, S6.unsuite ok, q6⟩
          | cont =>
            obtain ⟨σ6, H6, S6, q6⟩ := hsp
            exact ⟨_, _, S6.unsuite ok, q6⟩
          | ret u =>
            obtain ⟨v6, σ6, H6, S6, r6, q6⟩ := hsp
            exact ⟨_, _, _, S6.unsuite ok, r6, q6⟩
        | false =>
          show wpAny _ X.A (handleBy (.ref a) X.env hds2) _ _ _
          exact ih (hno rfl)
      | @consA x n i c ts b₀ suite np pos' hds2 l2 hc hN hi hln hsu r ih =>
        intro w
        have hloc : Loc X.env.scope n := .inl hln
        obtain ⟨b, hb1, hyes, hno⟩ := w
        refine wpAny_handleBy_cons (codeAny_handlers_test ?_) (by intro q; cases q)
        have LM := PySem.W.exm_one (M := model X.prog X.w) (J3.kIn) LT hb1
        refine test hc (LM.here ?_)
        cases b with
        | true =>
          refine codeAny_handlers_suite_as ?_
          refine HandSPX.lands_againZ fl3 fun h4 fl4 up4 => ?_
          have J4 : Inv X pins σ' H' { s' with heap := h4 } := J.landed nb fl4.1 ((up.trans up3).trans up4) os ag
          obtain ⟨oe4, vs4, he4, hz4, hd4⟩ := fl4.there
          have S4 := J4.suite he4 hd4 na nL nF
          refine store_ok (X := X.suite a ((a, oe4) :: (X.pn ++ pins))) (v := .ref a) S4 hN hi hloc rfl (fun s5 S5 => ?_) (.inr hln)
          refine wpAny_mono ((hsu a oe4 cls d (X.pn ++ pins) hz4 ⟨_, hd4⟩).run [] s5 _ H' _ S5 (hyes rfl a na)) (fun f s6 hsp => ?_) (fun _ _ z => False.elim z)
          have end_ : ∀ {σ6 : St} {H6 : Hp} {Q : Shared → Prop}, Inv (X.suite a ((a, oe4) :: (X.pn ++ pins))) [] σ6 H6 s6 → (∀ s7, Inv X pins (σ6.set i none) H6 s7 → Q s7) →
              wpAny (model X.prog X.w) X.A (do bindName X.env n .none; unbindBehindTheSuite X.env n pos') (fun _ s7 => Q s7) X.xe s6 := fun {σ6 H6 Q} S6 hq => gone_ok (S6.unsuite ok) hN hi hln hq
          cases f with
          | next =>
            obtain ⟨σ6, H6, S6, q6⟩ := hsp
            exact end_ S6 fun s7 J7 => ⟨_, _, J7, q6⟩
          | brk =>
            obtain ⟨σ6, H6, S6, q6⟩ := hsp
            exact end_ S6 fun s7 J7 => ⟨_, _, J7, q6⟩
          | cont =>
            obtain ⟨σ6, H6, S6, q6⟩ := hsp
            exact end_ S6 fun s7 J7 => ⟨_, _, J7, q6⟩
          | ret u =>
            obtain ⟨v6, σ6, H6, S6, r6, q6⟩ := hsp
            exact end_ S6 fun s7 J7 => ⟨_, _, _, J7, r6, q6⟩
        | false =>
          show wpAny _ X.A (handleBy (.ref a) X.env hds2) _ _ _
          exact ih (hno rfl)
    exact go hh w
  · cases f with
    | next =>
      obtain ⟨σ', H', J', q⟩ := hsp
      exact wpAny_execs_nil ⟨σ', H', J'.ofTry ok, q⟩
    | brk =>
      obtain ⟨σ', H', J', q⟩ := hsp
      exact ⟨σ', H', J'.ofTry ok, q⟩
    | cont =>
      obtain ⟨σ', H', J', q⟩ := hsp
      exact ⟨σ', H', J'.ofTry ok, q⟩
    | ret u =>
      obtain ⟨v, σ', H', J', r, q⟩ := hsp
      exact ⟨v, σ', H', J'.ofTry ok, r, q⟩
end
end L2
namespace Mp
open PySem L2

/-! ## raise -/
def sRaise (x : Str) (fs : List (Str × D)) : SS := fun _ M => .exc ⟨x, fs⟩ M
section
variable {X : Cx} {E : WX} {C fI : Addr} {x m : Str} {j k : Nat} {p p2 pos pos2 : Pos}
theorem gs_raiseM (hc : X.calm = true) (tk : Takes X E) (q : PySem.W.excIn X.K C [.type "ValueError", .type "Exception", .type "BaseException", .type "object"] "ValueError.__new__" = true) (gC : X.mg x = some (.ref C)) (kC : PySem.W.keepIn X.K (.ref C) = true)
    (r : Raises X (.ref C)) (hg : Gl X x) (hdb : (x == ("__debug__" : Str)) = false) : GS X E (.Raise (some (.Call (.Name x p) [.Constant (.str m) j p2] [] pos)) none pos2) (sRaise x []) :=
  PS.imp (ps_raise hc tk (pmk_own PySem.F.excBase_ValueError q gC kC r hg hdb)) fun D σ H ⟨W, Z, φ, env, M, R, Er, h⟩ => by
    exact h W [] H (.ref C) none σ (Fin.refl R) ⟨C, gC, rfl, .inl ⟨rfl, rfl⟩⟩ rfl
theorem gs_raiseR (hc : X.calm = true) (tk : Takes X E) (T : PySem.RefX.RefTxt X.prog X.K X.mg x C fI) (hr : Room k X.A) (hg : Gl X x) (hdb : (x == ("__debug__" : Str)) = false)
    (he : starEach (.Constant (.str m) j p2 :: []) X.env = (false, eval (.Constant (.str m) j p2) X.env) :: starEach [] X.env) :
    GS X E (.Raise (some (.Call (.Name x p) [.Constant (.str m) j p2] [] pos)) none pos2) (sRaise x [("reason", .str m)]) :=
  PS.imp (ps_raise hc tk (pmk_ref T hr (pa_cons pe_str pa_nil) hg hdb he)) fun De σ H ⟨W, Z, φ, env, M, R, Er, h⟩ => by
    refine ⟨.str m, rfl, fun d hd => ?_⟩
    have x1 := Ext.laid R (o := .xd [(("reason" : Str), V.str m)]) hd
    have R1 := R.laid0 (o := .xd [(("reason" : Str), V.str m)]) hd
    refine h W [] _ (.ref C) (some d) σ (Fin.of R1 x1) ⟨C, T.gC, rfl, .inr ⟨d, _, rfl, upd_same, fun z => z.elim (fun z => R.wt d z hd) fun z => R.zt d z hd, fun f y e => ?_⟩⟩ rfl
    have e : List.lookup f [(("reason" : Str), Mp.D.str m)] = some y := e
    by_cases hw : f = "reason"
    · subst hw
      have q : List.lookup ("reason" : Str) [(("reason" : Str), Mp.D.str m)] = some (Mp.D.str m) := by simp [List.lookup]
      rw [q] at e
      cases e
      exact ⟨.str m, by simp [List.lookup], .str m⟩
    · have qw : (f == ("reason" : Str)) = false := by simpa using hw
      have q : List.lookup f [(("reason" : Str), Mp.D.str m)] = none := by simp [List.lookup, qw]
      rw [q] at e
      cases e
end

/-! ## except suites -/
abbrev SX := Exc → Option D
def rdX (G : Gm) (i : Option Nat) (a : Addr) (cls : Value) (d : Option Addr) (g : SX) : TE := fun σ H Q => ∃ W Z φ M ex, Rel G W Z φ M H ∧ XR G (Bar W Z) H ex cls d ∧ (∀ j, i = some j → σ[j]? = some (some (.ref a))) ∧
  ∃ x, g ex = some x ∧ ∀ W' H' v, Rel G W' Z φ M H' → Ext W H W' H' → RD G (Bar W' Z) H' x v → Q v H'
abbrev GX (X : Cx) (G : Gm) (i : Option Nat) (a : Addr) (cls : Value) (d : Option Addr) (e : Expr) (g : SX) : Prop := PE X e (rdX G i a cls d g)
def rdXs (G : Gm) (i : Option Nat) (a : Addr) (cls : Value) (d : Option Addr) (g : Exc → Option (List D)) : TA := fun σ H Q => ∃ W Z φ M ex, Rel G W Z φ M H ∧ XR G (Bar W Z) H ex cls d ∧ (∀ j, i = some j → σ[j]? = some (some (.ref a))) ∧
  ∃ x, g ex = some x ∧ ∀ W' H' v, Rel G W' Z φ M H' → Ext W H W' H' → RDs G (Bar W' Z) H' x v → Q v H'
theorem XR.ext {G : Gm} {B B' : Addr → Prop} {H H' : Hp} {e : Exc} {c : Value} {d : Option Addr} (h : XR G B H e c d) (x : Ext B H B' H') : XR G B' H' e c d := by
  obtain ⟨C, h1, h2, h3⟩ := h
  refine ⟨C, h1, h2, h3.imp id fun ⟨dd, fs, e1, e2, nb, k⟩ => ⟨dd, fs, e1, (x.keep dd _ e2 nb).1, (x.keep dd _ e2 nb).2, fun f y e => ?_⟩⟩
  obtain ⟨v, e3, r⟩ := k f y e
  exact ⟨v, e3, r.ext x⟩
section
variable {X : Cx} {G : Gm} {i : Option Nat} {a : Addr} {cls : Value} {d : Option Addr} {e f : Expr} {es : List Expr} {g : SX} {l : Exc → Option (List D)} {k : Nat} {pos : Pos}
theorem gx_con {y : D} {v : V} (h : PE X e (tC v)) (r : ∀ B H, RD G B H y v) : GX X G i a cls d e (fun _ => some y) :=
  PE.imp h fun σ H Q ⟨W, Z, φ, M, ex, R, xr, hi, x, hx, q⟩ => by
    cases hx
    exact q W H v R (Ext.refl _ _) (r _ _)
theorem gx_nil : PA X [] (rdXs G i a cls d fun _ => some []) :=
  PA.imp pa_nil fun σ H Q ⟨W, Z, φ, M, ex, R, xr, hi, x, hx, q⟩ => by
    cases hx
    exact q W H [] R (Ext.refl _ _) .nil
theorem gx_cons (h1 : GX X G i a cls d e g) (h2 : PA X es (rdXs G i a cls d l)) (he : starEach (e :: es) X.env = (false, eval e X.env) :: starEach es X.env) :
    PA X (e :: es) (rdXs G i a cls d fun ex => match g ex, l ex with | some x, some xs => some (x :: xs) | _, _ => none) :=
  PA.imp (pa_cons h1 h2 he) fun σ H Q ⟨W, Z, φ, M, ex, R, xr, hi, x, hx, q⟩ => by
    dsimp only at hx
    cases e1 : g ex with
    | none => rw [e1] at hx; cases hx
    | some y =>
      cases e2 : l ex with
      | none => rw [e1, e2] at hx; cases hx
      | some ys =>
        rw [e1, e2] at hx
        cases hx
        refine ⟨W, Z, φ, M, ex, R, xr, hi, y, e1, fun W1 H1 v R1 x1 r1 => ⟨W1, Z, φ, M, ex, R1, xr.ext x1.bar, hi, ys, e2, fun W2 H2 vs R2 x2 r2 => ?_⟩⟩
        exact q W2 H2 _ R2 (x1.trans x2) (.cons (r1.ext x2.bar) r2)
theorem gx_tup (h : PA X es (rdXs G i a cls d l)) (hl : es.length ≤ 1000) (hn : ∀ ex xs, l ex = some xs → xs.length = es.length) : GX X G i a cls d (.Tuple es k pos) (fun ex => (l ex).map D.tup) :=
  PE.imp (pe_tup h) fun σ H Q ⟨W, Z, φ, M, ex, R, xr, hi, x, hx, q⟩ => by
    dsimp only at hx
    cases e : l ex with
    | none => rw [e] at hx; cases hx
    | some xs =>
      rw [e] at hx
      cases hx
      refine ⟨W, Z, φ, M, ex, R, xr, hi, xs, e, fun W1 H1 vs R1 x1 r1 => ⟨?_, fun tp htp => ?_⟩⟩
      · rw [← r1.length, hn ex xs e, sizeLine_eq]; omega
      · have x2 := Ext.laid R1 (o := .tup vs) htp
        refine q W1 _ _ (R1.laid0 htp) (x1.trans x2) (.tup (.inl ⟨upd_same, fun z => z.elim (fun z => R1.wt tp z htp) fun z => R1.zt tp z htp⟩) (r1.ext x2.bar))
end
section
variable {X : Cx} {i : Nat} {a C : Addr} {oe : Obj} {cls : Value} {d : Option Addr} {pn : List (Addr × Obj)} {n f nC : Str} {p pos : Pos}
theorem gx_fld (T : XfC X.K C) (hno : PySem.W.findIn X.K (.ref C) f = some none) (gC : X.mg nC = some (.ref C)) (hz : Zc cls d oe) (hf : ∃ vs, oe.data = .fields vs) (hN : X.N[i]? = some n) (hv : Vis X.env.scope n) (hd : (n == ("__debug__" : Str)) = false) (hcd : (n == ("__classdict__" : Str)) = false)
    (hb : attributeBase (.Name n p) f X.env (eval (.Name n p) X.env) = eval (.Name n p) X.env) :
    GX (X.suite a ((a, oe) :: pn)) (gm X) (some i) a cls d (.Attribute (.Name n p) f pos) (fun ex => if ex.cls = nC then ex.fs.lookup f else none) :=
  PE.imp (pe_xf T hno hz hf (pe_var (X := X.suite a ((a, oe) :: pn)) (i := i) hN hv hd hcd) hb) fun σ H Q ⟨W, Z, φ, M, ex, R, xr, hi, x, hx, q⟩ => by
    dsimp only at hx
    split at hx
    · rename_i hcl
      obtain ⟨C', h1, h2, h3⟩ := xr
      rw [hcl] at h1
      have e : C' = C := by
        have z : some (Value.ref C) = some (Value.ref C') := gC.symm.trans h1
        cases z; rfl
      subst e
      rcases h3 with ⟨h3, _⟩ | ⟨dd, fs, e1, e2, nb, k⟩
      · rw [h3] at hx; cases hx
      · obtain ⟨v, e3, r⟩ := k f x hx
        exact ⟨.ref a, hi i rfl, rfl, h2, dd, fs, v, e1, e2, e3, q W H v R (Ext.refl _ _) r⟩
    · cases hx
end

/-! ## try -/
structure Hd where
  nm : Str
  c : Value
  oi : Option Nat
  g : SX
def hdRun (ct : Str → Str → Option Bool) (e : Exc) : List (Str × SX) → Option (Option D)
  | [] => some none
  | (x, g) :: r => match ct e.cls x with
    | none => none
    | some true => match g e with
      | some y => some (some y)
      | none => none
    | some false => hdRun ct e r
def sTry (ct : Str → Str → Option Bool) (s : SS) (hs : List (Str × SX)) : SS := fun env M => match s env M with
  | .exc e M1 => match hdRun ct e hs with
    | none => .bad
    | some none => .exc e M1
    | some (some y) => .ok (.ret (.d y)) M1
  | r => r
def Hd.ent (X : Cx) (h : Hd) : Value × Option Nat × (Addr → Value → Option Addr → TS) := (h.c, h.oi, fun a cls d => tRet (rdX (gm X) h.oi a cls d h.g))
/-- the table of the classes holds -/
def CtOk (X : Cx) (ct : Str → Str → Option Bool) (x : Str) (c : Value) : Prop := ∀ ec b, ct ec x = some b → ∀ C, X.mg ec = some (.ref C) → PySem.W.exmOne X.K (.ref C) c = some b
section
variable {X : Cx} {E : WX} {body : List Stmt} {h₀ : ExceptHandler} {hds : List ExceptHandler} {pos : Pos} {s : SS} {l : List Hd} {ct : Str → Str → Option Bool}
theorem hd_run {W Z : Addr → Prop} {φ : List Addr} {H : Hp} {n : Nat} {M : Mem} {D : Ends} {e : Exc} (hct : ∀ h ∈ l, CtOk X ct h.nm h.c) (hsl : ∀ h ∈ l, ∀ i, h.oi = some i → i < n)
    (hr : match hdRun ct e (l.map fun h => (h.nm, h.g)) with
      | none => False
      | some none => RunS (gm X) Z φ W H n (.exc e M) D E
      | some (some y) => RunS (gm X) Z φ W H n (.ok (.ret (.d y)) M) D E) :
    RunS (gm X) Z φ W H n (.exc e M) D (wMix X.K E D (l.map (Hd.ent X))) := by
  intro W' ψ H' c d σ' fin xr hl
  induction l with
  | nil => exact hr W' ψ H' c d σ' fin xr hl
  | cons h r ih =>
    have hC := xr
    obtain ⟨C, h1, h2, h3⟩ := hC
    rw [List.map_cons] at hr
    unfold hdRun at hr
    have key : ∃ b, PySem.W.exmOne X.K c h.c = some b ∧ (b = true → ∃ y, h.g e = some y ∧ RunS (gm X) Z φ W H n (.ok (.ret (.d y)) M) D E) ∧ (b = false → wMix X.K E D (r.map (Hd.ent X)) c d σ' H') := by
      cases e1 : ct e.cls h.nm with
      | none => rw [e1] at hr; exact hr.elim
      | some b =>
        rw [e1] at hr
        refine ⟨b, by rw [h2]; exact hct h List.mem_cons_self _ _ e1 C h1, fun hb => ?_, fun hb => ?_⟩
        · subst hb
          dsimp only at hr
          cases e2 : h.g e with
          | none => rw [e2] at hr; exact hr.elim
          | some y => rw [e2] at hr; exact ⟨y, rfl, hr⟩
        · subst hb
          exact ih (fun g hg => hct g (.tail _ hg)) (fun g hg => hsl g (.tail _ hg)) hr
    obtain ⟨b, hb, hy, hn⟩ := key
    have suite : ∀ (D' : Ends) (σ1 : St) (a : Addr), D'.rt = D.rt → (∀ j, h.oi = some j → σ1[j]? = some (some (.ref a))) → b = true → tRet (rdX (gm X) h.oi a c d h.g) D' σ1 H' := fun D' σ1 a e0 hi hb => by
      obtain ⟨y, e2, q⟩ := hy hb
      show rdX (gm X) h.oi a c d h.g σ1 H' D'.rt
      rw [e0]
      refine ⟨W', Z, φ ++ ψ, M, e, fin.rel, xr, hi, y, e2, fun W2 H2 v R2 x2 r2 => ?_⟩
      refine q W2 ψ H2 v ⟨R2, fin.ext.trans x2, fin.new⟩ ?_
      exact r2
    obtain ⟨nm, hc, oi, g⟩ := h
    cases oi with
    | none => exact ⟨b, hb, fun hb a _ => suite D σ' a rfl (fun j z => by cases z) hb, hn⟩
    | some i => exact ⟨b, hb, fun hb a _ => suite _ _ a rfl (fun j z => by
        cases z
        exact List.getElem?_set_self (by rw [hl]; exact hsl _ List.mem_cons_self i rfl)) hb, hn⟩
theorem gs_try (hs : X.stack = X.env :: X.outer) (hf : X.env.frame = some X.env.locals) (tk : Takes X E)
    (hb : ∀ (W : WX) (pn : List (Addr × Obj)) (xe : Value → Shared → Prop), Takes (X.tr pn xe) W → PassesOwn (model X.prog X.w) X.A X.env xe → GSs (X.tr pn xe) W body s)
    (hh : HdsMx X (h₀ :: hds) (l.map (Hd.ent X))) (hct : ∀ h ∈ l, CtOk X ct h.nm h.c) (hsl : ∀ h ∈ l, ∀ i, h.oi = some i → i < X.N.length) :
    GS X E (.Try body (h₀ :: hds) [] [] pos) (sTry ct s (l.map fun h => (h.nm, h.g))) := by
  have P := ps_try_mix (X := X) (pos := pos) (tb := fun W => rdS (gm X) s W) (Wout := E) hs hf tk hb hh
  refine ⟨fun pins sh σ H D I h => P.run pins sh σ H D I ?_⟩
  have ln := I.len
  obtain ⟨W, Z, φ, env, M, R, Er, h⟩ := h
  refine ⟨W, Z, φ, env, M, R, Er, ?_⟩
  unfold sTry at h
  cases e : s env M with
  | ok fl M1 => rw [e] at h; cases fl <;> exact h
  | bad => rw [e] at h; exact h
  | exc ex M1 =>
    rw [e] at h
    refine hd_run (E := E) hct (fun h hm i hi => by rw [ln]; exact hsl h hm i hi) ?_
    dsimp only at h
    cases e2 : hdRun ct ex (l.map fun h => (h.nm, h.g)) with
    | none => rw [e2] at h; exact h
    | some o =>
      rw [e2] at h
      cases o with
      | none => exact h
      | some y => exact h
end
end Mp

namespace Mp
open PySem L2 PySem.Spec PyProof.Rows

/-! ## functions -/
def initEnv (n : Nat) (avs : List AV) : Env := avs.map (fun a => some a.settle) ++ List.replicate (n - avs.length) none
def finRet (n : Nat) (av : AV) (M : Mem) : Out AV := match av with
  | .cell i => if i < n then .ok (.cell i) (M.take n) else match M[i]? with
    | some (some (.l xs)) => .ok (.fr xs) (M.take n)
    | _ => .bad
  | av => .ok av (M.take n)
def fnRun (np n : Nat) (b : SS) (avs : List AV) (M : Mem) : Out AV :=
  if avs.length = np then match b (initEnv n avs) M with
    | .ok (.ret av) M' => finRet M.length av M'
    | .ok (.next _) M' => .ok (.d .non) (M'.take M.length)
    | .exc e M' => .exc e (M'.take M.length)
    | _ => .bad
  else .bad

section
variable {G : Gm} {W W' Z : Addr → Prop} {φ ψ : List Addr} {H H' : Hp} {M M' : Mem}
theorem Rel.dropTo (R : Rel G W Z (φ ++ ψ) M' H) {n : Nat} (h : φ.length = n) : Rel G W Z φ (M'.take n) H := by
  have hl := R.len
  rw [List.length_append] at hl
  refine ⟨by rw [List.length_take]; omega, (List.nodup_append.mp R.nd).1, R.wt, R.zt, fun i p e => R.sep i p (by rw [List.getElem?_append_left (List.getElem?_eq_some_iff.mp e).1]; exact e), fun i p c e1 e2 => ?_⟩
  have hi := (List.getElem?_eq_some_iff.mp e1).1
  refine R.cell i p c (by rw [List.getElem?_append_left hi]; exact e1) ?_
  rw [List.getElem?_take_of_lt (by omega)] at e2
  exact e2
theorem SRs.at {B : Addr → Prop} : ∀ {avs : List AV} {vs : List V} {i : Nat} {a : AV}, SRs G B φ H avs vs → avs[i]? = some a → ∃ v, vs[i]? = some v ∧ SR G B φ H a v
  | [], [], _, _, _, e => by simp at e
  | [], _ :: _, _, _, h, _ => h.elim
  | _ :: _, [], _, _, h, _ => h.elim
  | x :: xs, y :: ys, 0, a, ⟨h, _⟩, e => by simp at e; subst e; exact ⟨y, rfl, h⟩
  | x :: xs, y :: ys, i + 1, a, ⟨_, h⟩, e => by
    obtain ⟨v, e1, r⟩ := SRs.at (i := i) h (by simpa using e)
    exact ⟨v, by simpa using e1, r⟩
theorem start_env {B : Addr → Prop} {N : List Str} {avs : List AV} {vs : List V} (h : SRs G B φ H avs vs) : EnvR G B φ H (initEnv N.length avs) (L2.start N vs) := by
  have hl := h.length
  refine ⟨by unfold initEnv L2.start; simp [hl], fun i av e => ?_⟩
  unfold initEnv at e
  unfold L2.start
  by_cases hi : i < avs.length
  · rw [List.getElem?_append_left (by simpa using hi), List.getElem?_map] at e
    cases e1 : avs[i]? with
    | none => rw [e1] at e; cases e
    | some a =>
      rw [e1] at e
      cases e
      obtain ⟨v, e2, r⟩ := h.at e1
      refine ⟨v, ?_, r.settle⟩
      rw [List.getElem?_append_left (by rw [List.length_map, ← hl]; exact hi), List.getElem?_map, e2]
      rfl
  · rw [List.getElem?_append_right (by simpa using hi)] at e
    rw [List.getElem?_replicate] at e
    split at e <;> cases e
/-- what leaves a def -/
theorem ret_run {Q : VK} {E : XK} {av : AV} {v : V} (hl : φ.length = M.length) (f : Fin G Z φ W H M' W' ψ H') (r : VR G W' Z (φ ++ ψ) H H' M' av v) (h : Run G Z φ W H (finRet M.length av M') Q E) : Q v H' := by
  have plain : (∀ i, av ≠ .cell i) → (∀ xs, av ≠ .fr xs) → Run G Z φ W H (.ok av (M'.take M.length)) Q E → Q v H' := fun n1 n2 h => by
    refine h W' H' v (f.rel.dropTo hl) f.ext ?_
    cases av with
    | cell i => exact absurd rfl (n1 i)
    | fr xs => exact absurd rfl (n2 xs)
    | d x => exact r
    | scr ns => exact r
  cases av with
  | d x => exact plain (fun _ z => by cases z) (fun _ z => by cases z) h
  | scr x => exact plain (fun _ z => by cases z) (fun _ z => by cases z) h
  | fr xs =>
    obtain ⟨p, vs, e, h0, h1, h2, h3, R2⟩ := r
    exact h W' H' v (f.rel.dropTo hl) f.ext ⟨p, vs, e, h0, h1, h2, h3, R2.dropTo hl⟩
  | cell i =>
    by_cases hi : i < M.length
    · have h : Run G Z φ W H (.ok (.cell i) (M'.take M.length)) Q E := by simpa only [finRet, if_pos hi] using h
      refine h W' H' v (f.rel.dropTo hl) f.ext ?_
      obtain ⟨p, e, rfl⟩ := r
      exact ⟨p, by rw [List.getElem?_append_left (by rw [hl]; exact hi)] at e; exact e, rfl⟩
    · have h : Run G Z φ W H (match M'[i]? with | some (some (.l xs)) => .ok (.fr xs) (M'.take M.length) | _ => .bad) Q E := by simpa only [finRet, if_neg hi] using h
      cases e1 : M'[i]? with
      | none => rw [e1] at h; exact h.elim
      | some oc =>
      cases oc with
      | none => rw [e1] at h; exact h.elim
      | some mc =>
        cases mc with
        | t _ => rw [e1] at h; exact h.elim
        | k _ => rw [e1] at h; exact h.elim
        | l xs =>
        rw [e1] at h
        obtain ⟨p, e, rfl⟩ := r
        obtain ⟨w, vs, hp, rd⟩ := f.rel.cell i p _ e e1
        have hs := f.rel.sep i p e
        have hnew : H p = none := by
          refine f.new p ?_
          rw [List.getElem?_append_right (by rw [hl]; omega)] at e
          exact List.mem_of_getElem? e
        let W2 : Addr → Prop := fun a => W' a ∧ a ≠ p
        have ls : ∀ a, add1 (Bar W2 Z) p a → Bar W' Z a := fun a z => by
          rcases z with (z | z) | z
          · exact .inl z.1
          · exact .inr z
          · subst z; exact .inl w
        have hnp : ∀ j : Nat, φ[j]? ≠ some p := fun j ej => by
          have hj := (List.getElem?_eq_some_iff.mp ej).1
          have e2 : (φ ++ ψ)[j]? = some p := by rw [List.getElem?_append_left hj]; exact ej
          have hk := (List.getElem?_eq_some_iff.mp e).1
          have := (List.getElem?_inj (l := φ ++ ψ) (i := j) (j := i) (by rw [List.length_append]; omega) f.rel.nd).mp (e2.trans e.symm)
          omega
        have R1 : Rel G W' Z φ (M'.take M.length) H' := f.rel.dropTo hl
        have x1 : Ext W' H' W2 H' := Ext.less fun a z => z.1
        have R2 : Rel G W2 (add1 Z p) φ (M'.take M.length) H' := by
          refine ⟨R1.len, R1.nd, fun a z => R1.wt a z.1, fun a z => z.elim (R1.zt a) fun z => by subst z; rw [hp]; simp, fun j q ej => ⟨(R1.sep j q ej).1, fun z => z.elim (R1.sep j q ej).2 fun z => by subst z; exact hnp j ej⟩, fun j q c ej ec => ?_⟩
          obtain ⟨wq, r⟩ := R1.cell j q c ej ec
          have hq : q ≠ p := fun z => by subst z; exact hnp j ej
          refine ⟨⟨wq, hq⟩, r.ext (Ext.less fun a z => ?_) rfl⟩
          rcases z with z | z | z
          · exact .inl z.1
          · exact .inr z
          · subst z; exact .inl w
        exact h W2 H' (.ref p) R2.unbar (f.ext.trans x1) ⟨p, vs, rfl, hnew, hp, fun z => z.elim (fun z => z.2 rfl) hs.2, rd.less ls, R2⟩
end

/-- a def that may be called -/
structure CalD (P : Program) (w : World) (K : PySem.W.Frag) (mg : Str → Option Value) (base : Heap) (k : Nat) (x : Str) (F : List AV → Mem → Out AV) : Prop where
  ex : ∃ f fd ps, mg x = some (.ref f) ∧ PySem.W.keepIn K (.ref f) = true ∧ Binds K fd ps [] ∧ FnOk P w K mg base (L2.CX P w) k f fd ps (spOf ⟨K, mg⟩ F)
theorem CalD.cald {X : Cx} {k : Nat} {x : Str} {F : List AV → Mem → Out AV} (c : CalD X.prog X.w X.K X.mg X.base k x F) : Cald X k x F := ⟨c.ex⟩
theorem CalD.mono {P : Program} {w : World} {K : PySem.W.Frag} {mg : Str → Option Value} {base : Heap} {j k : Nat} {x : Str} {F : List AV → Mem → Out AV} (c : CalD P w K mg base j x F) (h : j ≤ k) : CalD P w K mg base k x F :=
  let ⟨f, fd, ps, h1, h2, h3, h4⟩ := c.ex
  ⟨f, fd, ps, h1, h2, h3, h4.mono h⟩
section
variable {P : Program} {w : World} {K : PySem.W.Frag} {mg : Str → Option Value} {base : Heap} {x : Str} {st : Stmt} {f : Addr} {fd : FuncData} {N ps : List Str} {k : Nat} {b : SS}
abbrev cxf (P : Program) (w : World) (K : PySem.W.Frag) (mg : Str → Option Value) (base : Heap) (N : List Str) (x : Str) (st : Stmt) (f : Addr) (cdv : Value) (A : Around) (outer : List PySem.Env) (s : Shared) (H : Hp) (E : XK) : Cx :=
  cxOf (L2.CX P w) P w K mg base N x (defScope st) f cdv A outer s H E
theorem fn_ok (F : Fun K x x st f fd) (S : FnScope N ps (defScope st))
    (body : ∀ (cdv : Value) (A : Around) (outer : List PySem.Env) (s : Shared) (H : Hp) (E : XK), Room k (A.deeper (envOfC x (defScope st) s.heap.objs.size f cdv)) →
      GSs (cxf P w K mg base N x st f cdv A outer s H E) (fun cls d _ H' => E cls d H') (defBody st) b) : FnOk P w K mg base (L2.CX P w) (k + 1) f fd ps (spOf ⟨K, mg⟩ (fnRun ps.length N.length b)) := by
  refine F.okX S (fun vs H Q E ⟨W, Z, φ, M, avs, R, rs, h⟩ => ?_) (fun cdv A outer s H vs Q E hr ⟨W, Z, φ, M, avs, R, rs, h⟩ => ⟨_, body cdv A outer s H E hr, ?_⟩)
  · unfold fnRun at h
    split at h
    · rename_i e; rw [← rs.length]; exact e
    · exact h.elim
  · unfold fnRun at h
    split at h
    · rename_i hn
      refine ⟨W, Z, φ, initEnv N.length avs, M, R, start_env rs, ?_⟩
      cases e : b (initEnv N.length avs) M with
      | bad => rw [e] at h; exact h.elim
      | exc ex M' =>
        rw [e] at h
        exact fun W' ψ H' c d σ' fin xr _ => h W' H' c d (fin.rel.dropTo R.len) fin.ext xr
      | ok fl M' =>
        rw [e] at h
        cases fl with
        | next e' => exact fun W' ψ H' σ' fin _ _ => h W' H' .non (fin.rel.dropTo R.len) fin.ext (by show RD _ _ _ _ _; exact .non)
        | ret av => exact fun W' ψ H' v fin r => ret_run R.len fin r h
        | brk e' => exact h.elim
        | cont e' => exact h.elim
    · exact h.elim
end

/-! ## the law -/
def spLaw (K : PySem.W.Frag) (n : Nat) : Sp := fun vs H Q _ => ∃ (a : Addr) (ns : List Int), vs = [.ref a] ∧ Only H ∧ SqL K H a (ns.map V.int) ∧ ns.length ≤ n ∧ ∀ H' : Hp, Q (.bl true) H'
theorem law_sp {K : PySem.W.Frag} {mg : Str → Option Value} {n : Nat} {F : List AV → Mem → Out AV} (hF : ∀ ns : List Int, ns.length ≤ n → ∃ M, F [.scr ns] [] = .ok (.d (.bl true)) M) :
    ∀ vs H Q E, spLaw K n vs H Q E → spOf ⟨K, mg⟩ F vs H Q E := by
  rintro vs H Q E ⟨a, ns, rfl, hO, hS, hl, q⟩
  obtain ⟨M, e⟩ := hF ns hl
  refine ⟨fun _ => False, fun _ => False, [], [], [.scr ns], ⟨rfl, List.nodup_nil, fun _ z => z.elim, fun _ z => z.elim, fun i p e => by simp at e, fun i p c e => by simp at e⟩, ⟨⟨a, rfl, ?_⟩, trivial⟩, ?_⟩
  · rcases hS with h | h
    · rcases hO a with z | ⟨o, xs, z⟩
      · rcases h with h | ⟨o, h⟩
        · rw [z] at h; cases h
        · rw [z] at h; cases h
      · rcases h with h | ⟨o', h⟩
        · rw [z] at h; cases h
        · exact .inl ⟨o', h, fun z => z.elim id id⟩
    · exact .inr h
  · rw [e]
    intro W' H' v R x r
    have r : RD _ _ _ (.bl true) v := r
    cases r
    exact q H'
theorem cx_no {P : Program} {w : World} (H : Hp) (s : Shared) (e : Value) (s' : Shared) (h : L2.CX P w [] H s (fun _ _ _ => False) e s') : False := by
  obtain ⟨_, _, _, _, _, _, _, _, _, _, _, _, h⟩ := h
  exact h
end Mp

namespace Mp
open PySem L2 PySem.Spec PyProof.Rows
section
variable {X : Cx} {E : WX} {a b o i v e : Expr} {es : List Expr} {f g fo fi fv : SE} {l : SL} {pos p p2 apos tpos : Pos}
/-! ## the builtins, called -/
section
variable (hc : X.calm = true) (hl : GL X E (e :: es) l) (he : starEach (e :: es) X.env = (false, eval e X.env) :: starEach es X.env) (hpl : (backTo pos (starEach es X.env)).any (·.1) = false)
include hc hl he hpl
theorem gc_len (hg : Gl X "len") (hm : X.mg "len" = none) : GE X E (.Call (.Name "len" p) (e :: es) [] pos) (sArgs lenOp l) :=
  ge_bi (fun h => pe_callB (call_len_seq.or call_len_str) hg hm boot_len h (he := he) (hpl := hpl)) hl fun W Z φ M H avs vs Q E R r h => len_run R r h
theorem gc_all (hg : Gl X "all") (hm : X.mg "all" = none) : GE X E (.Call (.Name "all" p) (e :: es) [] pos) (sArgs allOp l) :=
  ge_bi (fun h => pe_callB (cr_all hc) hg hm boot_all h (he := he) (hpl := hpl)) hl fun W Z φ M H avs vs Q E R r h => all_run R r h
theorem gc_any (hg : Gl X "any") (hm : X.mg "any" = none) : GE X E (.Call (.Name "any" p) (e :: es) [] pos) (sArgs anyOp l) :=
  ge_bi (fun h => pe_callB (cr_any hc) hg hm boot_any h (he := he) (hpl := hpl)) hl fun W Z φ M H avs vs Q E R r h => any_run R r h
theorem gc_sum (hg : Gl X "sum") (hm : X.mg "sum" = none) : GE X E (.Call (.Name "sum" p) (e :: es) [] pos) (sArgs sumOp l) :=
  ge_bi (fun h => pe_callB (cr_sum hc) hg hm boot_sum h (he := he) (hpl := hpl)) hl fun W Z φ M H avs vs Q E R r h => sum_run R r h
theorem gc_max (hg : Gl X "max") (hm : X.mg "max" = none) : GE X E (.Call (.Name "max" p) (e :: es) [] pos) (sArgs maxOp l) :=
  ge_bi (fun h => pe_callB ((cr_max hc).or (call_max2 hc)) hg hm boot_max h (he := he) (hpl := hpl)) hl fun W Z φ M H avs vs Q E R r h => max_run R r h
theorem gc_min (hg : Gl X "min") (hm : X.mg "min" = none) : GE X E (.Call (.Name "min" p) (e :: es) [] pos) (sArgs minOp l) :=
  ge_bi (fun h => pe_callB ((cr_min hc).or (call_min2 hc)) hg hm boot_min h (he := he) (hpl := hpl)) hl fun W Z φ M H avs vs Q E R r h => min_run R r h
theorem gc_abs (hg : Gl X "abs") (hm : X.mg "abs" = none) : GE X E (.Call (.Name "abs" p) (e :: es) [] pos) (sArgs absOp l) :=
  ge_bi (fun h => pe_callB call_abs hg hm boot_abs h (he := he) (hpl := hpl)) hl fun W Z φ M H avs vs Q E R r h => abs_run R r h
theorem gc_int (hg : Gl X "int") (hm : X.mg "int" = none) : GE X E (.Call (.Name "int" p) (e :: es) [] pos) (sArgs intOp l) :=
  ge_bi (fun h => pe_callTy call_int1 hg hm boot_int h (he := he) (hpl := hpl)) hl fun W Z φ M H avs vs Q E R r h => int_run R r h
theorem gc_tuple (hg : Gl X "tuple") (hm : X.mg "tuple" = none) : GE X E (.Call (.Name "tuple" p) (e :: es) [] pos) (sArgs tupleOp l) :=
  ge_bi (fun h => pe_callTy call_tuple_of hg hm boot_tuple h (he := he) (hpl := hpl)) hl fun W Z φ M H avs vs Q E R r h => tuple_run R r h
theorem gc_list (hg : Gl X "list") (hm : X.mg "list" = none) : GE X E (.Call (.Name "list" p) (e :: es) [] pos) (sArgs listOp l) :=
  ge_bi (fun h => pe_callTy call_list_of hg hm boot_list h (he := he) (hpl := hpl)) hl fun W Z φ M H avs vs Q E R r h => list_run R r h
theorem gc_sorted (hg : Gl X "sorted") (hm : X.mg "sorted" = none) : GE X E (.Call (.Name "sorted" p) (e :: es) [] pos) (sArgs sortedOp l) :=
  ge_bi (fun h => pe_callB cr_sortedI hg hm boot_sorted h (he := he) (hpl := hpl)) hl fun W Z φ M H avs vs Q E R r h => sorted_run R r h
theorem gc_str (hg : Gl X "str") (hm : X.mg "str" = none) : GE X E (.Call (.Name "str" p) (e :: es) [] pos) (sArgs strOp l) :=
  ge_bi (fun h => pe_callTy (call_str_int.or SkE.call_str_str) hg hm boot_str h (he := he) (hpl := hpl)) hl fun W Z φ M H avs vs Q E R r h => str_run R r h
end
/-! ## slices -/
theorem gk_00 (ha : GE X E a f) : GE X E (.Subscript a (.Slice none none none p2) pos) (sSlice f none none) :=
  ge_slice ha po_none po_none (fun _ => ⟨rfl, rfl⟩) (fun e h => by cases h) (fun _ => ⟨rfl, rfl⟩) (fun e h => by cases h)
theorem gk_10 (ha : GE X E a f) (hb : GE X E b g) : GE X E (.Subscript a (.Slice (some b) none none p2) pos) (sSlice f (some g) none) :=
  ge_slice ha (po_some hb) po_none (fun h => by cases h) (fun e h => by cases h; exact ⟨g, rfl, rfl⟩) (fun _ => ⟨rfl, rfl⟩) (fun e h => by cases h)
theorem gk_01 (ha : GE X E a f) (hb : GE X E b g) : GE X E (.Subscript a (.Slice none (some b) none p2) pos) (sSlice f none (some g)) :=
  ge_slice ha po_none (po_some hb) (fun _ => ⟨rfl, rfl⟩) (fun e h => by cases h) (fun h => by cases h) (fun e h => by cases h; exact ⟨g, rfl, rfl⟩)
theorem gk_11 {c : Expr} {h : SE} (ha : GE X E a f) (hb : GE X E b g) (hc : GE X E c h) : GE X E (.Subscript a (.Slice (some b) (some c) none p2) pos) (sSlice f (some g) (some h)) :=
  ge_slice ha (po_some hb) (po_some hc) (fun h => by cases h) (fun e h => by cases h; exact ⟨g, rfl, rfl⟩) (fun h => by cases h) (fun e hh => by cases hh; exact ⟨h, rfl, rfl⟩)
/-! ## constants -/
theorem gn_int {n : Int} {j : Nat} : GE X E (.Constant (.int n) j pos) (sCon (.int n)) := ge_con pe_int fun _ _ => .int n
theorem gn_bl {n : Bool} {j : Nat} : GE X E (.Constant (.bool n) j pos) (sCon (.bl n)) := ge_con pe_bl fun _ _ => .bl n
theorem gn_str {n : Str} {j : Nat} : GE X E (.Constant (.str n) j pos) (sCon (.str n)) := ge_con pe_str fun _ _ => .str n
theorem gn_non {j : Nat} : GE X E (.Constant .none j pos) (sCon .non) := ge_con pe_non fun _ _ => .non
/-- a constant of the module -/
structure Cst (G : Gm) (x : Str) (d : D) : Prop where
  ex : ∃ (u : Value) (v : V), G.mg x = some u ∧ RelV v u ∧ ∀ B H, RD G B H d v
theorem Cst.of_int {G : Gm} {x : Str} {n : Int} {t : Tok} (h : G.mg x = some (.int n t)) : Cst G x (.int n) := ⟨⟨_, .int n, h, ⟨t, rfl⟩, fun _ _ => .int n⟩⟩
theorem Cst.of_str {G : Gm} {x : Str} {n : Str} {t : Tok} (h : G.mg x = some (.str n t)) : Cst G x (.str n) := ⟨⟨_, .str n, h, ⟨t, rfl⟩, fun _ _ => .str n⟩⟩
theorem ge_cst {x : Str} {d : D} (c : Cst (gm X) x d) (hg : Gl X x) (hd : (x == ("__debug__" : Str)) = false) : GE X E (.Name x pos) (sCon d) := by
  obtain ⟨u, v, h1, h2, h3⟩ := c.ex
  exact ge_con (pe_glob hg h1 h2 hd) h3
/-! ## stores -/
theorem gs_setI' (hv : GE X E v fv) (ho : GE X E o fo) (hi : GE X E i fi) (hs : swapsWithSole [.Subscript o i tpos] v pos.line X.env = pure false) (hw : swappedStores [.Subscript o i tpos] v X.env = pure none)
    (h1 : (assignEach [.Subscript o i tpos] X.env).map (·.2) = [assign (.Subscript o i tpos) X.env])
    (ha : ∀ v, assign (.Subscript o i tpos) X.env v = (do
      let ov ← holding [v] (eval o X.env)
      let iv ← holding [v, ov] (eval i X.env)
      standAt tpos
      holding [v, ov, iv] (setItem ov iv v)
      release [v, ov, iv] [])) : GS X E (.Assign [.Subscript o i tpos] v pos) (sSetI fo fi fv) := gs_setI hv ho hi hs hw h1 fun h1 h2 => pg_sub h1 h2 set_list ha

section
variable (ho : GE X E o fo) (hl : GL X E (e :: es) l)
include ho hl
theorem gm_append (hbase : attributeBase o "append" X.env (eval o X.env) = eval o X.env)
    (hfew : ((backTo pos (starEach (e :: es) X.env)).all (fun x => !x.1) && (backToKw pos (keywordEach [] X.env)).all (fun x => x.1.isSome) && decide ((e :: es).length + ([] : List Keyword).length + (if ([] : List Keyword).isEmpty then 0 else 1) < 30)) = true)
    (hline : (apos.endLine == pos.line) = true) (hs : starEach (e :: es) X.env = (false, eval e X.env) :: starEach es X.env) (hplain : (backTo pos (starEach es X.env)).any (·.1) = false) :
    GE X E (.Call (.Attribute o "append" apos) (e :: es) [] pos) (sMeth mAppend fo l) :=
  ge_meth ho hl (fun h1 h2 => pe_bm F.plainAttrs_list F.slot_list_append F.type_list_append mt_append h1 h2 (hbase := hbase) (hfew := hfew) (hline := hline) (hs := hs) (hplain := hplain)) fun W Z φ M H avs vs R ra => append_ok W Z φ M H avs vs R ra
theorem gm_extend (hbase : attributeBase o "extend" X.env (eval o X.env) = eval o X.env)
    (hfew : ((backTo pos (starEach (e :: es) X.env)).all (fun x => !x.1) && (backToKw pos (keywordEach [] X.env)).all (fun x => x.1.isSome) && decide ((e :: es).length + ([] : List Keyword).length + (if ([] : List Keyword).isEmpty then 0 else 1) < 30)) = true)
    (hline : (apos.endLine == pos.line) = true) (hs : starEach (e :: es) X.env = (false, eval e X.env) :: starEach es X.env) (hplain : (backTo pos (starEach es X.env)).any (·.1) = false) :
    GE X E (.Call (.Attribute o "extend" apos) (e :: es) [] pos) (sMeth mExtend fo l) :=
  ge_meth ho hl (fun h1 h2 => pe_bm F.plainAttrs_list F.slot_list_extend F.type_list_extend mt_extend h1 h2 (hbase := hbase) (hfew := hfew) (hline := hline) (hs := hs) (hplain := hplain)) fun W Z φ M H avs vs R ra => extend_ok W Z φ M H avs vs R ra
end
end
end Mp

namespace Mp
open PySem L2 PySem.Spec PyProof.Rows
section
variable {X : Cx} {E : WX} {e : Expr} {es : List Expr} {f : SE} {l : SL} {pos : Pos}
/-- the name in the slot i -/
theorem gv (i : Nat) {x : Str} (hN : X.N[i]? = some x := by rfl) (hv : Vis X.env.scope x := by first | exact Or.inl rfl | exact Or.inr (Or.inl rfl) | exact Or.inr (Or.inr rfl)) (hd : (x == ("__debug__" : Str)) = false := by decide)
    (hcd : (x == ("__classdict__" : Str)) = false := by decide) : GE X E (.Name x pos) (sVar i) := ge_var hN hv hd hcd
theorem gl_one (he : GE X E e f) (hs : starEach [e] X.env = (false, eval e X.env) :: starEach [] X.env := by rfl) : GL X E [e] (sCons f sNil) := gl_cons hs he gl_nil
theorem gl_more (he : GE X E e f) (hl : GL X E es l) (hs : starEach (e :: es) X.env = (false, eval e X.env) :: starEach es X.env := by rfl) : GL X E (e :: es) (sCons f l) := gl_cons hs he hl
theorem sl_nil : ∀ (env : Env) (M : Mem) (avs : List AV) (M' : Mem), sNil env M = .ok avs M' → avs.length = 0 := fun env M avs M' h => by cases h; rfl
theorem sl_cons {n : Nat} (h : ∀ (env : Env) (M : Mem) (avs : List AV) (M' : Mem), l env M = .ok avs M' → avs.length = n) : ∀ (env : Env) (M : Mem) (avs : List AV) (M' : Mem), sCons f l env M = .ok avs M' → avs.length = n + 1 := fun env M avs M' e => by
  unfold sCons at e
  cases e1 : f env M with
  | bad => rw [e1] at e; cases e
  | exc _ _ => rw [e1] at e; cases e
  | ok x M1 =>
    rw [e1, Out.bind_ok] at e
    cases e2 : l env M1 with
    | bad => rw [e2] at e; cases e
    | exc _ _ => rw [e2] at e; cases e
    | ok xs M2 =>
      rw [e2, Out.bind_ok] at e
      have z := h _ _ _ _ e2
      cases e
      simp [z]
theorem takesW {X : Cx} : Takes X FW := L2.takes0
/-- an own class that an except clause names -/
theorem names_own {x : Str} {C : Addr} (hg : Gl X x) (hm : X.mg x = some (.ref C)) (hd : (x == ("__debug__" : Str)) = false) : Names X x (.ref C) := ⟨hg, hd, .inl hm⟩
theorem exm_of {K : PySem.W.Frag} {C D : Addr} {b : Bool} (h1 : PySem.W.subIn K (.ref D) (.type "BaseException") = some true) (h2 : PySem.W.isClsIn K D = true) (h3 : PySem.W.typeIn K (.ref D) = some (.type "type")) (h4 : PySem.W.subIn K (.ref C) (.ref D) = some b) :
    PySem.W.exmOne K (.ref C) (.ref D) = some b := by
  have e1 : (PySem.W.subIn K (.ref D) (.type "BaseException") == some true) = true := by rw [h1] <;> rfl
  have e2 : ((PySem.W.clsIn K D).isSome && PySem.W.typeIn K (.ref D) == some (.type "type")) = true := by
    have h2' : (PySem.W.clsIn K D).isSome = true := h2
    rw [h2', h3] <;> rfl
  show (if (PySem.W.subIn K (.ref D) (.type "BaseException") == some true) = true then (if ((PySem.W.clsIn K D).isSome && PySem.W.typeIn K (.ref D) == some (.type "type")) = true then PySem.W.subIn K (.ref C) (.ref D) else none) else none) = some b
  rw [if_pos e1, if_pos e2]
  exact h4
/-- which class is which: the two own ones -/
def ctE : Str → Str → Option Bool := fun e h =>
  if e = "Malformed" then (if h = "Malformed" then some true else if h = "Refused" then some false else none)
  else if e = "Refused" then (if h = "Malformed" then some false else if h = "Refused" then some true else none)
  else none
structure Errs (P : Program) (K : PySem.W.Frag) (mg : Str → Option Value) (CM CR fR : Addr) : Prop where
  ref : PySem.RefX.RefTxt P K mg "Refused" CR fR
  gM : mg "Malformed" = some (.ref CM)
  xM : PySem.W.excIn K CM [.type "ValueError", .type "Exception", .type "BaseException", .type "object"] "ValueError.__new__" = true
  kM : PySem.W.keepIn K (.ref CM) = true
  bM : PySem.W.subIn K (.ref CM) (.type "BaseException") = some true
  tM : PySem.W.typeIn K (.ref CM) = some (.type "type")
  iM : PySem.W.isClsIn K CM = true
  iR : PySem.W.isClsIn K CR = true
  sMM : PySem.W.subIn K (.ref CM) (.ref CM) = some true
  sMR : PySem.W.subIn K (.ref CM) (.ref CR) = some false
  sRM : PySem.W.subIn K (.ref CR) (.ref CM) = some false
  sRR : PySem.W.subIn K (.ref CR) (.ref CR) = some true
  fld : XfC K CR
section
variable {CM CR fR : Addr} {j k : Nat} {m : Str} {p p2 pos2 : Pos}
theorem Errs.ctM (T : Errs X.prog X.K X.mg CM CR fR) : CtOk X ctE "Malformed" (.ref CM) := fun ec b h C hC => by
  unfold ctE at h
  split at h
  · rename_i e
    subst e
    rw [if_pos rfl] at h
    cases h
    have := T.gM.symm.trans hC
    cases this
    exact exm_of T.bM T.iM T.tM T.sMM
  · split at h
    · rename_i e
      subst e
      rw [if_pos rfl] at h
      cases h
      have := T.ref.gC.symm.trans hC
      cases this
      exact exm_of T.bM T.iM T.tM T.sRM
    · cases h
theorem Errs.ctR (T : Errs X.prog X.K X.mg CM CR fR) : CtOk X ctE "Refused" (.ref CR) := fun ec b h C hC => by
  have n : ¬ ("Refused" : Str) = "Malformed" := by decide
  unfold ctE at h
  split at h
  · rename_i e
    subst e
    rw [if_pos rfl] at h
    cases h
    have := T.gM.symm.trans hC
    cases this
    exact exm_of T.ref.exC T.iR T.ref.tyC T.sMR
  · split at h
    · rename_i e
      subst e
      rw [if_pos rfl] at h
      cases h
      have := T.ref.gC.symm.trans hC
      cases this
      exact exm_of T.ref.exC T.iR T.ref.tyC T.sRR
    · cases h
theorem gs_rM (T : Errs X.prog X.K X.mg CM CR fR) (hc : X.calm = true) (tk : Takes X E) (hg : Gl X "Malformed") : GS X E (.Raise (some (.Call (.Name "Malformed" p) [.Constant (.str m) j p2] [] pos)) none pos2) (sRaise "Malformed" []) :=
  gs_raiseM hc tk T.xM T.gM T.kM (raises_own T.bM T.tM) hg (by decide)
theorem gs_rR (T : Errs X.prog X.K X.mg CM CR fR) (hc : X.calm = true) (tk : Takes X E) (hr : Room k X.A) (hg : Gl X "Refused") : GS X E (.Raise (some (.Call (.Name "Refused" p) [.Constant (.str m) j p2] [] pos)) none pos2) (sRaise "Refused" [("reason", .str m)]) :=
  gs_raiseR hc tk T.ref hr hg (by decide) rfl
/-! ### the suites -/
theorem gsu {Y G : _} {oi : Option Nat} {a : Addr} {cls : Value} {d : Option Addr} {g : SX} {e : Expr} {pos : Pos} (h : GX Y G oi a cls d e g) : PSs Y [.Return (some e) pos] (tRet (rdX G oi a cls d g)) := pss_one (ps_ret h)
theorem gx_int {Y G : _} {oi : Option Nat} {a : Addr} {cls : Value} {d : Option Addr} {n : Int} {j : Nat} : GX Y G oi a cls d (.Constant (.int n) j pos) (fun _ => some (.int n)) := gx_con pe_int fun _ _ => .int n
theorem gx_bl {Y G : _} {oi : Option Nat} {a : Addr} {cls : Value} {d : Option Addr} {n : Bool} {j : Nat} : GX Y G oi a cls d (.Constant (.bool n) j pos) (fun _ => some (.bl n)) := gx_con pe_bl fun _ _ => .bl n
theorem gx_str {Y G : _} {oi : Option Nat} {a : Addr} {cls : Value} {d : Option Addr} {n : Str} {j : Nat} : GX Y G oi a cls d (.Constant (.str n) j pos) (fun _ => some (.str n)) := gx_con pe_str fun _ _ => .str n
theorem gx_non {Y G : _} {oi : Option Nat} {a : Addr} {cls : Value} {d : Option Addr} {j : Nat} : GX Y G oi a cls d (.Constant .none j pos) (fun _ => some .non) := gx_con pe_non fun _ _ => .non
/-- a tuple of two -/
def xTup2 (f g : SX) : SX := fun ex => match f ex, g ex with
  | some x, some y => some (.tup [x, y])
  | _, _ => none
theorem gx_tup2 {Y : Cx} {G : Gm} {oi : Option Nat} {a : Addr} {cls : Value} {d : Option Addr} {e1 e2 : Expr} {f g : SX} {k : Nat} (h1 : GX Y G oi a cls d e1 f) (h2 : GX Y G oi a cls d e2 g) (s1 : starEach [e1, e2] Y.env = (false, eval e1 Y.env) :: starEach [e2] Y.env) (s2 : starEach [e2] Y.env = (false, eval e2 Y.env) :: starEach [] Y.env) :
    GX Y G oi a cls d (.Tuple [e1, e2] k pos) (xTup2 f g) := by
  have h := gx_tup (k := k) (pos := pos) (gx_cons h1 (gx_cons h2 gx_nil s2) s1) (by simp) (fun ex xs h => by
    cases e1 : f ex with
    | none => rw [e1] at h; cases h
    | some x =>
      cases e2 : g ex with
      | none => rw [e1, e2] at h; cases h
      | some y => rw [e1, e2] at h; cases h; rfl)
  have e : (fun ex => Option.map D.tup (match f ex, (match g ex, (some [] : Option (List D)) with | some x, some xs => some (x :: xs) | _, _ => none) with | some x, some xs => some (x :: xs) | _, _ => none)) = xTup2 f g := by
    funext ex
    unfold xTup2
    cases f ex with
    | none => rfl
    | some x => cases g ex <;> rfl
  rw [← e]
  exact h
def xFld (nC f : Str) : SX := fun ex => if ex.cls = nC then ex.fs.lookup f else none
theorem gx_reason (T : Errs X.prog X.K X.mg CM CR fR) {i : Nat} {a : Addr} {oe : Obj} {cls : Value} {d : Option Addr} {pn : List (Addr × Obj)} {n : Str} (hz : Zc cls d oe) (hf : ∃ vs, oe.data = .fields vs) (hN : X.N[i]? = some n) (hv : Vis X.env.scope n) (hd : (n == ("__debug__" : Str)) = false) (hcd : (n == ("__classdict__" : Str)) = false)
    (hb : attributeBase (.Name n p) "reason" X.env (eval (.Name n p) X.env) = eval (.Name n p) X.env) :
    GX (X.suite a ((a, oe) :: pn)) (gm X) (some i) a cls d (.Attribute (.Name n p) "reason" pos) (xFld "Refused" "reason") := gx_fld T.fld T.ref.noN T.ref.gC hz hf hN hv hd hcd hb
end
end

theorem tg_len0 : ∀ (ds : List D) (env env' : Env), Tg.nil.bind (.tup ds) env = some env' → ds.length = 0 := fun ds env env' h => by
  cases ds with
  | nil => rfl
  | cons _ _ => cases h
theorem tg_lenS {t u : Tg} {n : Nat} (k : ∀ (ds : List D) (env env' : Env), u.bind (.tup ds) env = some env' → ds.length = n) : ∀ (ds : List D) (env env' : Env), (Tg.cons t u).bind (.tup ds) env = some env' → ds.length = n + 1 := fun ds env env' h => by
  cases ds with
  | nil => cases h
  | cons d ds =>
    unfold Tg.bind at h
    split at h
    · rename_i e; rw [List.length_cons, k _ _ _ h]
    · cases h
end Mp

namespace Mp
open PySem

/-! ## stepping through a body, in plain Lean -/
def el {α β : Type} (r : Out α) (k : α → Mem → Out β) (kx : Exc → Mem → Out β) : Out β := match r with
  | .ok a M => k a M
  | .exc e M => kx e M
  | .bad => .bad
theorem el_bind {α β γ : Type} (r : Out α) (g : α → Mem → Out β) (k : β → Mem → Out γ) (kx : Exc → Mem → Out γ) : el (r.bind g) k kx = el r (fun a M => el (g a M) k kx) kx := by cases r <;> rfl
def optK {α β : Type} (o : Option α) (k : α → Out β) : Out β := match o with
  | some a => k a
  | none => .bad
def flK {β : Type} (fl : Fl) (M : Mem) (kn : Env → Mem → Out β) (k : Fl → Mem → Out β) : Out β := match fl with
  | .next e => kn e M
  | .ret v => k (.ret v) M
  | .brk e => k (.brk e) M
  | .cont e => k (.cont e) M
def endK (n : Nat) (fl : Fl) (M : Mem) : Out AV := match fl with
  | .ret av => finRet n av M
  | .next _ => .ok (.d .non) (M.take n)
  | _ => .bad
def stK {β : Type} (x : AV) (k : AV → Out β) : Out β := k x.settle
def tupK {β : Type} (avs : List AV) (M : Mem) (c : List D → AV) (k : AV → Mem → Out β) : Out β := match keepDs avs M with
  | some (xs, M2) => if xs.length ≤ sizeLine then k (c xs) M2 else .bad
  | none => .bad
theorem el_id {α : Type} (r : Out α) : el r (fun a M => .ok a M) (fun e M => .exc e M) = r := by cases r <;> rfl
section
variable {β : Type} {kx : Exc → Mem → Out β} {res : Out β} {env : Env} {M : Mem}
section
variable {α : Type} {k : α → Mem → Out β}
theorem e_ok {a : α} (h : k a M = res) : el (.ok a M) k kx = res := h
theorem e_exc {e : Exc} (h : kx e M = res) : el (.exc e M : Out α) k kx = res := h
theorem e_eq {r r' : Out α} (e : r = r') (h : el r' k kx = res) : el r k kx = res := by rw [e]; exact h
theorem e_guard {b : Bool} {r : Out α} (e : b = true) (h : el r k kx = res) : el (guard b r) k kx = res := by unfold guard; rw [if_pos e]; exact h
theorem e_if {p : Prop} [Decidable p] {r r' : Out α} (h1 : p → el r k kx = res) (h2 : ¬ p → el r' k kx = res) : el (if p then r else r') k kx = res := by
  split
  · exact h1 (by assumption)
  · exact h2 (by assumption)
end
/-! ### defs -/
theorem e_fn {np n : Nat} {b : SS} {avs : List AV} {r : Out AV} (hl : avs.length = np)
    (h : el (b (initEnv n avs) M) (fun fl M' => endK M.length fl M') (fun e M' => .exc e (M'.take M.length)) = r) : fnRun np n b avs M = r := by
  unfold fnRun
  rw [if_pos hl, ← h]
  cases b (initEnv n avs) M with
  | ok fl M' => cases fl <;> rfl
  | exc e M' => rfl
  | bad => rfl
/-! ### statements -/
section
variable {k : Fl → Mem → Out β} {f g : SE} {s t : SS} {c : SB}
theorem e_skip (h : k (.next env) M = res) : el (sSkip env M) k kx = res := h
theorem e_seq (h : el (s env M) (fun fl M1 => flK fl M1 (fun e M2 => el (t e M2) k kx) k) kx = res) : el (sSeq2 s t env M) k kx = res := by
  rw [← h]
  unfold sSeq2
  rw [el_bind]
  congr
  funext fl M1
  cases fl <;> rfl
theorem e_ret (h : el (f env M) (fun x M1 => k (.ret x) M1) kx = res) : el (sRet f env M) k kx = res := by rw [← h]; exact el_bind _ _ _ _
theorem e_retN (h : k (.ret (.d .non)) M = res) : el (sRetN env M) k kx = res := h
theorem e_expr (h : el (f env M) (fun _ M1 => k (.next env) M1) kx = res) : el (sExpr f env M) k kx = res := by rw [← h]; exact el_bind _ _ _ _
theorem e_brk (h : k (.brk env) M = res) : el (sBrk env M) k kx = res := h
theorem e_cont (h : k (.cont env) M = res) : el (sCont env M) k kx = res := h
theorem e_raise {x : Str} {fs : List (Str × D)} (h : kx ⟨x, fs⟩ M = res) : el (sRaise x fs env M) k kx = res := h
theorem e_ifS (h : el (c env M) (fun b M1 => cond b (el (s env M1) k kx) (el (t env M1) k kx)) kx = res) : el (sIfS c s t env M) k kx = res := by
  rw [← h]
  unfold sIfS
  rw [el_bind]
  congr
  funext b M1
  cases b <;> rfl
theorem e_cond {b : Bool} {r r' : Out β} (h1 : b = true → r = res) (h2 : b = false → r' = res) : cond b r r' = res := by cases b with
  | true => exact h1 rfl
  | false => exact h2 rfl
theorem e_condT {r r' : Out β} (h : r = res) : cond true r r' = res := h
theorem e_condF {r r' : Out β} (h : r' = res) : cond false r r' = res := h
theorem e_condP {p : Prop} [Decidable p] {r r' : Out β} (h1 : p → r = res) (h2 : ¬ p → r' = res) : cond (decide p) r r' = res := by
  by_cases h : p
  · rw [decide_eq_true h]; exact h1 h
  · rw [decide_eq_false h]; exact h2 h
theorem e_condPT {p : Prop} [Decidable p] {r r' : Out β} (h : p) (h1 : r = res) : cond (decide p) r r' = res := by rw [decide_eq_true h]; exact h1
theorem e_condPF {p : Prop} [Decidable p] {r r' : Out β} (h : ¬ p) (h1 : r' = res) : cond (decide p) r r' = res := by rw [decide_eq_false h]; exact h1
theorem e_condNT {p : Prop} [Decidable p] {r r' : Out β} (h : ¬ p) (h1 : r = res) : cond (!decide p) r r' = res := by rw [decide_eq_false h]; exact h1
theorem e_condNF {p : Prop} [Decidable p] {r r' : Out β} (h : p) (h1 : r' = res) : cond (!decide p) r r' = res := by rw [decide_eq_true h]; exact h1
theorem e_condTe {b : Bool} {r r' : Out β} (h : b = true) (h1 : r = res) : cond b r r' = res := by rw [h]; exact h1
theorem e_condFe {b : Bool} {r r' : Out β} (h : b = false) (h1 : r' = res) : cond b r r' = res := by rw [h]; exact h1
theorem e_condN {p : Prop} [Decidable p] {r r' : Out β} (h1 : ¬ p → r = res) (h2 : p → r' = res) : cond (!decide p) r r' = res := by
  by_cases h : p
  · rw [decide_eq_true h]; exact h2 h
  · rw [decide_eq_false h]; exact h1 h
/-- a value stored -/
def asgK (i : Nat) (m : Bool) (x : AV) (env : Env) (M : Mem) (k : Fl → Mem → Out β) : Out β := k (.next (asgAV i m x env M).1) (asgAV i m x env M).2
theorem e_asg {i : Nat} {m : Bool} (h : el (f env M) (fun x M1 => asgK i m x env M1 k) kx = res) : el (sAsg i m f env M) k kx = res := by rw [← h]; exact el_bind _ _ _ _
theorem a_d {i : Nat} {m : Bool} {x : D} (h : k (.next (env.set i (some (.d x)))) M = res) : asgK i m (.d x) env M k = res := by cases m <;> exact h
theorem a_c {i : Nat} {m : Bool} {c : Nat} (h : k (.next (env.set i (some (.cell c)))) M = res) : asgK i m (.cell c) env M k = res := by cases m <;> exact h
theorem a_f {i : Nat} {xs : List D} (h : k (.next (env.set i (some (.d (.lst xs))))) M = res) : asgK i false (.fr xs) env M k = res := h
theorem a_m {i : Nat} {xs : List D} (h : k (.next (env.set i (some (.cell M.length)))) (M ++ [some (.l xs)]) = res) : asgK i true (.fr xs) env M k = res := h
def asgP (i : Nat) (m : Bool) (x : AV) (env : Env) (M : Mem) (k : Env → Mem → Out β) : Out β := k (asgAV i m x env M).1 (asgAV i m x env M).2
theorem ap_d {k : Env → Mem → Out β} {i : Nat} {m : Bool} {x : D} (h : k (env.set i (some (.d x))) M = res) : asgP i m (.d x) env M k = res := by cases m <;> exact h
theorem ap_c {k : Env → Mem → Out β} {i : Nat} {m : Bool} {c : Nat} (h : k (env.set i (some (.cell c))) M = res) : asgP i m (.cell c) env M k = res := by cases m <;> exact h
theorem ap_f {k : Env → Mem → Out β} {i : Nat} {xs : List D} (h : k (env.set i (some (.d (.lst xs)))) M = res) : asgP i false (.fr xs) env M k = res := h
theorem ap_m {k : Env → Mem → Out β} {i : Nat} {xs : List D} (h : k (env.set i (some (.cell M.length))) (M ++ [some (.l xs)]) = res) : asgP i true (.fr xs) env M k = res := h
theorem e_par2 {i j : Nat} {m n : Bool} (h : el (f env M) (fun x M1 => asgP i m x env M1 fun e1 M2 => el (g env M2) (fun y M3 => asgK j n y e1 M3 k) kx) kx = res) : el (sPar2 i j m n f g env M) k kx = res := by
  rw [← h]
  unfold sPar2
  rw [el_bind]
  congr
  funext x M1
  rw [el_bind]
  rfl
theorem e_par3 {h3 : SE} {i j l : Nat} {m n o : Bool} (h : el (f env M) (fun x M1 => asgP i m x env M1 fun e1 M2 => el (g env M2) (fun y M3 => asgP j n y e1 M3 fun e2 M4 => el (h3 env M4) (fun z M5 => asgK l o z e2 M5 k) kx) kx) kx = res) : el (sPar3 i j l m n o f g h3 env M) k kx = res := by
  rw [← h]
  unfold sPar3
  rw [el_bind]
  congr
  funext x M1
  rw [el_bind]
  show el (g env _) _ kx = el (g env _) _ kx
  congr
  funext y M2
  rw [el_bind]
  rfl
theorem k_next {fl : Env} {kn : Env → Mem → Out β} (h : kn fl M = res) : flK (.next fl) M kn k = res := h
theorem k_ret {v : AV} {kn : Env → Mem → Out β} (h : k (.ret v) M = res) : flK (.ret v) M kn k = res := h
theorem k_brk {v : Env} {kn : Env → Mem → Out β} (h : k (.brk v) M = res) : flK (.brk v) M kn k = res := h
theorem k_cont {v : Env} {kn : Env → Mem → Out β} (h : k (.cont v) M = res) : flK (.cont v) M kn k = res := h
def tgK (tg : Tg) (x : AV) (env : Env) (k : Env → Out β) : Out β := match x with
  | .d d => optK (tg.bind d env) k
  | _ => .bad
theorem e_asgT {tg : Tg} (h : el (f env M) (fun x M1 => tgK tg x env (fun e => k (.next e) M1)) kx = res) : el (sAsgT tg f env M) k kx = res := by
  rw [← h]
  unfold sAsgT
  rw [el_bind]
  congr
  funext x M1
  cases x with
  | d d =>
    show el (match tg.bind d env with | some e => .ok (.next e) M1 | none => .bad) k kx = optK (tg.bind d env) _
    cases tg.bind d env <;> rfl
  | _ => rfl
theorem g_d {tg : Tg} {d : D} {e : Env} {k : Env → Out β} (q : tg.bind d env = some e) (h : k e = res) : tgK tg (.d d) env k = res := by
  unfold tgK optK
  dsimp only
  rw [q]
  exact h
def hdK (o : Option (Option D)) (e : Exc) (M : Mem) (k : Fl → Mem → Out β) (kx : Exc → Mem → Out β) : Out β := match o with
  | none => .bad
  | some none => kx e M
  | some (some y) => k (.ret (.d y)) M
theorem e_tryS {ct : Str → Str → Option Bool} {hs : List (Str × SX)} (h : el (s env M) k (fun e M1 => hdK (hdRun ct e hs) e M1 k kx) = res) : el (sTry ct s hs env M) k kx = res := by
  rw [← h]
  unfold sTry
  cases s env M with
  | ok _ _ => rfl
  | bad => rfl
  | exc e M1 =>
    show el (match hdRun ct e hs with | none => .bad | some none => .exc e M1 | some (some y) => .ok (.ret (.d y)) M1) k kx = hdK (hdRun ct e hs) e M1 k kx
    cases hdRun ct e hs with
    | none => rfl
    | some o => cases o <;> rfl
theorem h_some {e : Exc} {y : D} {o : Option (Option D)} (q : o = some (some y)) (h : k (.ret (.d y)) M = res) : hdK o e M k kx = res := by rw [q]; exact h
end
/-! ### values -/
section
variable {k : AV → Mem → Out β} {f g : SE} {l : SL} {c : SB}
theorem e_var {i : Nat} {x : D} (e : env[i]? = some (some (.d x))) (h : k (.d x) M = res) : el (sVar i env M) k kx = res := by unfold sVar; rw [e]; exact h
theorem e_varC {i : Nat} {x : Nat} (e : env[i]? = some (some (.cell x))) (h : k (.cell x) M = res) : el (sVar i env M) k kx = res := by unfold sVar; rw [e]; exact h
theorem e_varS {i : Nat} {x : List Int} (e : env[i]? = some (some (.scr x))) (h : k (.scr x) M = res) : el (sVar i env M) k kx = res := by unfold sVar; rw [e]; exact h
theorem e_con {d : D} (h : k (.d d) M = res) : el (sCon d env M) k kx = res := h
theorem e_bin {op : Operator} (h : el (f env M) (fun x M1 => el (g env M1) (fun y M2 => el (binop op (opnd M2 x) (opnd M2 y) M2) k kx) kx) kx = res) : el (sBin op f g env M) k kx = res := by
  rw [← h]
  unfold sBin sTwo
  rw [el_bind]
  congr
  funext x M1
  rw [el_bind]
theorem e_cmp {op : CmpOp} (h : el (f env M) (fun x M1 => el (g env M1) (fun y M2 => el (cmpop op x y M2) k kx) kx) kx = res) : el (sCmp op f g env M) k kx = res := by
  rw [← h]
  unfold sCmp sTwo
  rw [el_bind]
  congr
  funext x M1
  rw [el_bind]
theorem e_idx (h : el (f env M) (fun x M1 => el (g env M1) (fun y M2 => el (idx x y M2) k kx) kx) kx = res) : el (sIdx f g env M) k kx = res := by
  rw [← h]
  unfold sIdx sTwo
  rw [el_bind]
  congr
  funext x M1
  rw [el_bind]
theorem e_neg (h : el (f env M) (fun x M1 => el (negOp x M1) k kx) kx = res) : el (sNeg f env M) k kx = res := by rw [← h]; exact el_bind _ _ _ _
theorem e_isi {us : List String} (h : el (f env M) (fun x M1 => el (isiOp us x M1) k kx) kx = res) : el (sIsi us f env M) k kx = res := by rw [← h]; exact el_bind _ _ _ _
theorem e_args {F : List AV → Mem → Out AV} (h : el (l env M) (fun avs M1 => el (F avs M1) k kx) kx = res) : el (sArgs F l env M) k kx = res := by rw [← h]; exact el_bind _ _ _ _
theorem e_tup (h : el (l env M) (fun avs M1 => tupK avs M1 (fun xs => .d (.tup xs)) k) kx = res) : el (sTup l env M) k kx = res := by
  rw [← h]
  unfold sTup
  rw [el_bind]
  congr
  funext avs M1
  unfold tupK
  cases keepDs avs M1 with
  | none => rfl
  | some p =>
    obtain ⟨xs, M2⟩ := p
    dsimp only
    unfold guard
    by_cases hl : xs.length ≤ sizeLine
    · rw [if_pos (decide_eq_true hl), if_pos hl]; rfl
    · rw [if_neg (by simpa using hl), if_neg hl]; rfl
theorem e_lst (h : el (l env M) (fun avs M1 => tupK avs M1 .fr k) kx = res) : el (sLst l env M) k kx = res := by
  rw [← h]
  unfold sLst
  rw [el_bind]
  congr
  funext avs M1
  unfold tupK
  cases keepDs avs M1 with
  | none => rfl
  | some p =>
    obtain ⟨xs, M2⟩ := p
    dsimp only
    unfold guard
    by_cases hl : xs.length ≤ sizeLine
    · rw [if_pos (decide_eq_true hl), if_pos hl]; rfl
    · rw [if_neg (by simpa using hl), if_neg hl]; rfl
theorem e_iff (h : el (c env M) (fun b M1 => cond b (el (f env M1) k kx) (el (g env M1) k kx)) kx = res) : el (sIf c f g env M) k kx = res := by
  rw [← h]
  unfold sIf
  rw [el_bind]
  congr
  funext b M1
  cases b <;> rfl
theorem e_and (h : el (f env M) (fun x M1 => optK (bool? x) fun b => cond b (el (g env M1) k kx) (k (.d (.bl false)) M1)) kx = res) : el (sAnd f g env M) k kx = res := by
  rw [← h]
  unfold sAnd
  rw [el_bind]
  congr
  funext x M1
  cases bool? x with
  | none => rfl
  | some b => cases b <;> rfl
theorem e_or (h : el (f env M) (fun x M1 => optK (bool? x) fun b => cond b (k (.d (.bl true)) M1) (el (g env M1) k kx)) kx = res) : el (sOr f g env M) k kx = res := by
  rw [← h]
  unfold sOr
  rw [el_bind]
  congr
  funext x M1
  cases bool? x with
  | none => rfl
  | some b => cases b <;> rfl
theorem e_not (h : el (f env M) (fun x M1 => optK (bool? x) fun b => k (.d (.bl (!b))) M1) kx = res) : el (sNot f env M) k kx = res := by
  rw [← h]
  unfold sNot
  rw [el_bind]
  congr
  funext x M1
  cases bool? x <;> rfl
theorem e_chain {op op' : CmpOp} {h' : SE} (h : el (f env M) (fun x M1 => el (g env M1) (fun y M2 => optK (cmpv op M2 x y) fun b => cond b (el (h' env M2) (fun z M3 => el (cmpop op' y z M3) k kx) kx) (k (.d (.bl false)) M2)) kx) kx = res) : el (sChain op op' f g h' env M) k kx = res := by
  rw [← h]
  unfold sChain
  rw [el_bind]
  congr
  funext x M1
  rw [el_bind]
  congr
  funext y M2
  cases cmpv op M2 x y with
  | none => rfl
  | some b =>
    cases b
    · rfl
    · exact el_bind _ _ _ _
theorem t_k {avs : List AV} {c : List D → AV} {xs : List D} {M2 : Mem} (e : keepDs avs M = some (xs, M2)) (hl0 : xs.length < 1000000) (h : k (c xs) M2 = res) : tupK avs M c k = res := by
  have hl : xs.length ≤ sizeLine := Nat.le_of_lt (Nat.lt_of_lt_of_le hl0 (by decide))
  unfold tupK
  rw [e]
  dsimp only
  rw [if_pos hl]
  exact h
/-! primitives -/
theorem e_call {F : List AV → Mem → Out AV} {avs : List AV} {v : AV} {M2 : Mem} (e : F avs M = .ok v M2) (h : k v M2 = res) : el (F avs M) k kx = res := by rw [e]; exact h
theorem e_callX {F : List AV → Mem → Out AV} {avs : List AV} {v : Exc} {M2 : Mem} (e : F avs M = .exc v M2) (h : kx v M2 = res) : el (F avs M) k kx = res := by rw [e]; exact h
theorem p_int {i : Int} (h : k (.d (.int i)) M = res) : el (intOp [.d (.int i)] M) k kx = res := h
theorem p_abs {i : Int} (h : k (.d (.int i.natAbs)) M = res) : el (absOp [.d (.int i)] M) k kx = res := h
theorem p_max {i j : Int} (h : k (.d (.int (max i j))) M = res) : el (maxOp [.d (.int i), .d (.int j)] M) k kx = res := h
theorem p_min {i j : Int} (h : k (.d (.int (min i j))) M = res) : el (minOp [.d (.int i), .d (.int j)] M) k kx = res := h
theorem p_all {avs : List AV} {v : AV} {M2 : Mem} (e : allOp avs M = .ok v M2) (h : k v M2 = res) : el (allOp avs M) k kx = res := e_call e h
theorem p_any {avs : List AV} {v : AV} {M2 : Mem} (e : anyOp avs M = .ok v M2) (h : k v M2 = res) : el (anyOp avs M) k kx = res := e_call e h
theorem p_idx {x y v : AV} {M2 : Mem} (e : idx x y M = .ok v M2) (h : k v M2 = res) : el (idx x y M) k kx = res := by rw [e]; exact h
theorem p_bin {op : Operator} {x y v : AV} {M2 : Mem} (e : binop op x y M = .ok v M2) (h : k v M2 = res) : el (binop op x y M) k kx = res := by rw [e]; exact h
theorem p_isi {us : List String} {x : AV} {t : String} {b : Bool} (e : tyName M x = some t) (eb : us.any (isi1 t) = b) (h : k (.d (.bl b)) M = res) : el (isiOp us x M) k kx = res := by
  unfold isiOp
  rw [e]
  dsimp only
  rw [eb]
  exact h
/-! ### walks -/
section
variable {fi : SI} {c : SB}
theorem e_comp {tg : Tg} {vs : List Nat} (h : el (fi env M) (fun itm M1 => el (compL f c tg vs itm.deps env itm.items [] M1) k kx) kx = res) : el (sComp fi tg c f vs env M) k kx = res := by rw [← h]; exact el_bind _ _ _ _
theorem c_nil {tg : Tg} {vs : List Nat} {items acc : List D} (e : items = []) (h : k (.fr acc) M = res) : el (compL f c tg vs [] env items acc M) k kx = res := by subst e; exact h
def cpK (av : AV) (M : Mem) (acc : List D) (q : List D → Mem → Out β) : Out β := match keepD av M with
  | some (x, M3) => if acc.length < sizeLine then q (acc ++ [x]) M3 else .bad
  | none => .bad
theorem c_d {x : D} {acc : List D} {q : List D → Mem → Out β} (hl0 : acc.length < 1000000) (h : q (acc ++ [x]) M = res) : cpK (.d x) M acc q = res := by
  have hl : acc.length < sizeLine := Nat.lt_of_lt_of_le hl0 (by decide)
  unfold cpK keepD
  dsimp only
  rw [if_pos hl]
  exact h
theorem c_cons {tg : Tg} {vs : List Nat} {items acc r : List D} {d : D} {env' : Env} (e : items = d :: r) (eb : tg.bind d (wipeE env vs) = some env')
    (h : el (c env' M) (fun b M1 => cond b (el (f env' M1) (fun av M2 => cpK av M2 acc fun acc' M3 => el (compL f c tg vs [] env r acc' M3) k kx) fun _ _ => .bad) (el (compL f c tg vs [] env r acc M1) k kx)) (fun _ _ => .bad) = res) : el (compL f c tg vs [] env items acc M) k kx = res := by
  subst e
  rw [← h]
  have e1 : compL f c tg vs [] env (d :: r) acc M = match c env' M with
        | .ok true M1 => match f env' M1 with
          | .ok av M2 => match keepD av M2 with
            | some (x, M3) => if acc.length < sizeLine then compL f c tg vs [] env r (acc ++ [x]) M3 else .bad
            | none => .bad
          | _ => .bad
        | .ok false M1 => compL f c tg vs [] env r acc M1
        | _ => .bad := by
    rw [compL, if_pos (by rfl), eb] <;> rfl
  rw [e1]
  cases c env' M with
  | bad => rfl
  | exc _ _ => rfl
  | ok b M1 =>
    cases b with
    | false => rfl
    | true =>
      show el (match f env' M1 with
          | .ok av M2 => match keepD av M2 with
            | some (x, M3) => if acc.length < sizeLine then compL f c tg vs [] env r (acc ++ [x]) M3 else .bad
            | none => .bad
          | _ => .bad) k kx = el (f env' M1) _ _
      cases f env' M1 with
      | bad => rfl
      | exc _ _ => rfl
      | ok av M2 =>
        show el (match keepD av M2 with
            | some (x, M3) => if acc.length < sizeLine then compL f c tg vs [] env r (acc ++ [x]) M3 else .bad
            | none => .bad) k kx = cpK av M2 acc (fun acc' M3 => el (compL f c tg vs [] env r acc' M3) k kx)
        unfold cpK
        cases keepD av M2 with
        | none => rfl
        | some p =>
          dsimp only
          split <;> rfl
theorem p_isiT {us : List String} {x : AV} {t : String} (e : tyName M x = some t) (eb : us.any (isi1 t) = true) (h : k (.d (.bl true)) M = res) : el (isiOp us x M) k kx = res := p_isi e eb h
theorem p_isiF {us : List String} {x : AV} {t : String} (e : tyName M x = some t) (eb : us.any (isi1 t) = false) (h : k (.d (.bl false)) M = res) : el (isiOp us x M) k kx = res := p_isi e eb h
theorem p_lenT {xs : List D} (h : k (.d (.int xs.length)) M = res) : el (lenOp [.d (.tup xs)] M) k kx = res := h
theorem p_lenL {xs : List D} (h : k (.d (.int xs.length)) M = res) : el (lenOp [.d (.lst xs)] M) k kx = res := h
theorem p_add {i j : Int} (h : k (.d (.int (i + j))) M = res) : el (binop .Add (opnd M (.d (.int i))) (opnd M (.d (.int j))) M) k kx = res := h
theorem p_sub {i j : Int} (h : k (.d (.int (i - j))) M = res) : el (binop .Sub (opnd M (.d (.int i))) (opnd M (.d (.int j))) M) k kx = res := h
theorem p_mul {i j : Int} (e : mulOk i j = true) (h : k (.d (.int (i * j))) M = res) : el (binop .Mult (opnd M (.d (.int i))) (opnd M (.d (.int j))) M) k kx = res := e_guard (k := k) (kx := kx) (r := .ok (.d (.int (i * j))) M) e h
theorem p_div {i j : Int} (e0 : 0 < j) (e : divOk j = true) (h : k (.d (.int (i / j))) M = res) : el (binop .FloorDiv (opnd M (.d (.int i))) (opnd M (.d (.int j))) M) k kx = res := by
  show el (if 0 < j then guard (divOk j) (.ok (.d (.int (i / j))) M) else guard (decide (j ≠ 0) && divOk j) (.ok (.d (.int (i.fdiv j))) M)) k kx = res
  rw [if_pos e0]
  exact e_guard e h
theorem p_mod {i j : Int} (e0 : 0 < j) (h : k (.d (.int (i % j))) M = res) : el (binop .Mod (opnd M (.d (.int i))) (opnd M (.d (.int j))) M) k kx = res := by
  show el (if 0 < j then .ok (.d (.int (i % j))) M else guard (decide (j ≠ 0)) (.ok (.d (.int (i.fmod j))) M)) k kx = res
  rw [if_pos e0]
  exact h
theorem p_neg {i : Int} (h : k (.d (.int (-i))) M = res) : el (negOp (.d (.int i)) M) k kx = res := h
theorem p_lt {i j : Int} (h : k (.d (.bl (decide (i < j)))) M = res) : el (cmpop .Lt (.d (.int i)) (.d (.int j)) M) k kx = res := h
theorem p_le {i j : Int} (h : k (.d (.bl (decide (i ≤ j)))) M = res) : el (cmpop .LtE (.d (.int i)) (.d (.int j)) M) k kx = res := h
theorem p_gt {i j : Int} (h : k (.d (.bl (decide (j < i)))) M = res) : el (cmpop .Gt (.d (.int i)) (.d (.int j)) M) k kx = res := h
theorem p_ge {i j : Int} (h : k (.d (.bl (decide (j ≤ i)))) M = res) : el (cmpop .GtE (.d (.int i)) (.d (.int j)) M) k kx = res := h
theorem eqv_int (i j : Int) : PyData.eqv (.int i) (.int j) = decide (i = j) := by first | rfl | (simp [PyData.eqv]; done) | (by_cases h : i = j <;> simp [PyData.eqv, h])
theorem p_eq {a b : D} (ha : a.ok = true) (hb : b.ok = true) (h : k (.d (.bl (D.eqv a b))) M = res) : el (cmpop .Eq (.d a) (.d b) M) k kx = res := by
  have e : cmpop .Eq (.d a) (.d b) M = .ok (.d (.bl (D.eqv a b))) M := by
    unfold cmpop cmpv look
    dsimp only
    rw [ha, hb]
    rfl
  rw [e]
  exact h
theorem p_ne {a b : D} (ha : a.ok = true) (hb : b.ok = true) (h : k (.d (.bl (!D.eqv a b))) M = res) : el (cmpop .NotEq (.d a) (.d b) M) k kx = res := by
  have e : cmpop .NotEq (.d a) (.d b) M = .ok (.d (.bl (!D.eqv a b))) M := by
    unfold cmpop cmpv look
    dsimp only
    rw [ha, hb]
    rfl
  rw [e]
  exact h
theorem ok_str {x : Str} (h : (PyData.str x).canLay0 = true) : (D.str x).ok = true := by
  unfold D.ok SeqAt.shaped
  have e : (D.str x).py = .str x := rfl
  rw [e, h]
  rfl
theorem ok_int (i : Int) : (D.int i).ok = true := by rfl
theorem eqv_ii (i j : Int) : D.eqv (.int i) (.int j) = decide (i = j) := eqv_int i j
theorem p_eqI {i j : Int} (h : k (.d (.bl (decide (i = j)))) M = res) : el (cmpop .Eq (.d (.int i)) (.d (.int j)) M) k kx = res := p_eq (ok_int i) (ok_int j) (by rw [eqv_ii]; exact h)
theorem p_neI {i j : Int} (h : k (.d (.bl (!decide (i = j)))) M = res) : el (cmpop .NotEq (.d (.int i)) (.d (.int j)) M) k kx = res := p_ne (ok_int i) (ok_int j) (by rw [eqv_ii]; exact h)
theorem p_isN {x : AV} (h : k (.d (.bl (isNone x))) M = res) : el (cmpop .Is x (.d .non) M) k kx = res := h
theorem p_isB {a b : Bool} (h : k (.d (.bl (decide (a = b)))) M = res) : el (cmpop .Is (.d (.bl a)) (.d (.bl b)) M) k kx = res := h
theorem p_notB {a b : Bool} (h : k (.d (.bl (!decide (a = b)))) M = res) : el (cmpop .IsNot (.d (.bl a)) (.d (.bl b)) M) k kx = res := h
theorem p_notN {x : AV} (h : k (.d (.bl (!isNone x))) M = res) : el (cmpop .IsNot x (.d .non) M) k kx = res := h
end
end
section
variable {k : Itm → Mem → Out β} {f : SE} {l : SL}
theorem i_seq (h : el (f env M) (fun x M1 => optK (seqItm M1 x) fun it => k it M1) kx = res) : el (sSeq f env M) k kx = res := by
  rw [← h]
  unfold sSeq
  rw [el_bind]
  congr
  funext x M1
  cases seqItm M1 x <;> rfl
theorem i_rng (h : el (l env M) (fun x M1 => optK (rngItm x) fun it => k it M1) kx = res) : el (sRng l env M) k kx = res := by
  rw [← h]
  unfold sRng
  rw [el_bind]
  congr
  funext x M1
  cases rngItm x <;> rfl
end
section
variable {k : Bool → Mem → Out β} {f : SE} {c d : SB}
theorem b_sB (h : el (f env M) (fun x M1 => optK (truth M1 x) fun b => k b M1) kx = res) : el (sB f env M) k kx = res := by
  rw [← h]
  unfold sB
  rw [el_bind]
  congr
  funext x M1
  cases truth M1 x <;> rfl
theorem b_and (h : el (c env M) (fun b M1 => cond b (el (d env M1) k kx) (k false M1)) kx = res) : el (sAndB c d env M) k kx = res := by
  rw [← h]
  unfold sAndB
  rw [el_bind]
  congr
  funext b M1
  cases b <;> rfl
theorem b_or (h : el (c env M) (fun b M1 => cond b (k true M1) (el (d env M1) k kx)) kx = res) : el (sOrB c d env M) k kx = res := by
  rw [← h]
  unfold sOrB
  rw [el_bind]
  congr
  funext b M1
  cases b <;> rfl
theorem b_not (h : el (c env M) (fun b M1 => k (!b) M1) kx = res) : el (sNotB c env M) k kx = res := by rw [← h]; exact el_bind _ _ _ _
theorem b_yes (h : k true M = res) : el (sYes env M) k kx = res := h
end
theorem o_eq {α : Type} {o : Option α} {a : α} {k : α → Out β} (e : o = some a) (h : k a = res) : optK o k = res := by rw [e]; exact h
theorem o_bl {b : Bool} {k : Bool → Out β} (h : k b = res) : optK (truth M (.d (.bl b))) k = res := h
theorem o_int {i : Int} {k : Bool → Out β} (h : k (i != 0) = res) : optK (truth M (.d (.int i))) k = res := h
theorem o_b {b : Bool} {k : Bool → Out β} (h : k b = res) : optK (bool? (.d (.bl b))) k = res := h
theorem o_lt {i j : Int} {k : Bool → Out β} (h : k (decide (i < j)) = res) : optK (cmpv .Lt M (.d (.int i)) (.d (.int j))) k = res := h
theorem o_le {i j : Int} {k : Bool → Out β} (h : k (decide (i ≤ j)) = res) : optK (cmpv .LtE M (.d (.int i)) (.d (.int j))) k = res := h
section
variable {k : List AV → Mem → Out β} {f : SE} {l : SL}
theorem s_d {x : D} {k : AV → Out β} (h : k (.d x) = res) : stK (.d x) k = res := h
theorem s_c {x : Nat} {k : AV → Out β} (h : k (.cell x) = res) : stK (.cell x) k = res := h
theorem s_s {x : List Int} {k : AV → Out β} (h : k (.scr x) = res) : stK (.scr x) k = res := h
theorem s_f {x : List D} {k : AV → Out β} (h : k (.d (.lst x)) = res) : stK (.fr x) k = res := h
theorem l_nil (h : k [] M = res) : el (sNil env M) k kx = res := h
theorem l_cons (h : el (f env M) (fun x M1 => stK x fun y => el (l env M1) (fun xs M2 => k (y :: xs) M2) kx) kx = res) : el (sCons f l env M) k kx = res := by
  rw [← h]
  unfold sCons
  rw [el_bind]
  congr
  funext x M1
  rw [el_bind]
  rfl
end
end
theorem mul_l {i j : Int} (h1 : -18446744073709551616 < i) (h2 : i < 18446744073709551616) : mulOk i j = true := by
  unfold mulOk
  have : i.natAbs < 2 ^ 64 := by omega
  simp [this]
theorem mul_r {i j : Int} (h1 : -18446744073709551616 < j) (h2 : j < 18446744073709551616) : mulOk i j = true := by
  unfold mulOk
  have : j.natAbs < 2 ^ 64 := by omega
  simp [this]
theorem div_s {j : Int} (h1 : -1073741824 < j) (h2 : j < 1073741824) : divOk j = true := by
  unfold divOk
  have : j.natAbs < 2 ^ 30 := by omega
  simp [this]

theorem r_d {M : Mem} {x : D} : endK M.length (.ret (.d x)) M = .ok (.d x) M := by
  show Out.ok (AV.d x) (M.take M.length) = _
  rw [List.take_length]
theorem r_x {M : Mem} {e : Exc} : (Out.exc e (M.take M.length) : Out AV) = .exc e M := by rw [List.take_length]
theorem r_n {M : Mem} {e : Env} : endK M.length (.next e) M = .ok (.d .non) M := by
  show Out.ok (AV.d .non) (M.take M.length) = _
  rw [List.take_length]
theorem sm62 {i : Int} (h1 : -4611686018427387904 ≤ i) (h2 : i < 4611686018427387904) : small62 i = true := by
  unfold small62
  have e1 : -(2 ^ 62 : Int) ≤ i := by simpa using h1
  have e2 : i < (2 ^ 62 : Int) := by simpa using h2
  rw [decide_eq_true e1, decide_eq_true e2]
  rfl
theorem o_rngN {β : Type} {res : Out β} {n : Nat} {k : Itm → Out β} (hn : n ≤ 1000000) (h : k ⟨rngL 0 n, []⟩ = res) : optK (rngItm [.d (.int (n : Int))]) k = res := by
  unfold rngItm
  dsimp only
  rw [if_pos (sm62 (by omega) (by omega)), Int.toNat_natCast]
  exact h
theorem o_rngI {β : Type} {res : Out β} {n : Int} {k : Itm → Out β} (hn : n ≤ 1000000) (h0 : -1000000 ≤ n) (h : k ⟨rngL 0 n.toNat, []⟩ = res) : optK (rngItm [.d (.int n)]) k = res := by
  unfold rngItm
  dsimp only
  rw [if_pos (sm62 (by omega) (by omega))]
  exact h
theorem o_rng2 {β : Type} {res : Out β} {i j : Int} {k : Itm → Out β} (hi : -1000000 ≤ i ∧ i ≤ 1000000) (hj : -1000000 ≤ j ∧ j ≤ 1000000) (h : k ⟨rngL i (j - i).toNat, []⟩ = res) : optK (rngItm [.d (.int i), .d (.int j)]) k = res := by
  unfold rngItm
  dsimp only
  rw [sm62 (i := i) (by omega) (by omega), sm62 (i := j) (by omega) (by omega)]
  exact h
section
variable {β : Type} {kx : Exc → Mem → Out β} {res : Out β} {env : Env} {M : Mem}
theorem e_for {k : Fl → Mem → Out β} {fi : SI} {t : Tg} {s : SS} (h : el (fi env M) (fun itm M1 => el (forL s t itm.deps itm.items env M1) k kx) kx = res) : el (sFor fi t s env M) k kx = res := by rw [← h]; exact el_bind _ _ _ _
/-- o[i] = v -/
def setK (v o i : AV) (M : Mem) (q : Mem → Out β) : Out β := match keepD v.settle M, i with
  | some (d, M4), .d (.int k) => match cellOf? M4 o with
    | some (c, xs) => match L2.ixN xs.length k with
      | some j => q (M4.set c (some (.l (xs.set j d))))
      | none => .bad
    | none => .bad
  | _, _ => .bad
theorem e_setI {k : Fl → Mem → Out β} {fo fi fv : SE} (h : el (fv env M) (fun v M1 => el (fo env M1) (fun o M2 => el (fi env M2) (fun i M3 => setK v o i M3 fun M4 => k (.next env) M4) kx) kx) kx = res) : el (sSetI fo fi fv env M) k kx = res := by
  rw [← h]
  unfold sSetI
  rw [el_bind]
  congr
  funext v M1
  rw [el_bind]
  congr
  funext o M2
  rw [el_bind]
  congr
  funext i M3
  unfold setK
  cases keepD v.settle M3 with
  | none => rfl
  | some p =>
    obtain ⟨d, M4⟩ := p
    cases i with
    | d z =>
      cases z with
      | int n =>
        dsimp only
        cases cellOf? M4 o with
        | none => rfl
        | some q =>
          obtain ⟨c, xs⟩ := q
          dsimp only
          cases L2.ixN xs.length n <;> rfl
      | _ => rfl
    | _ => rfl
theorem st_d {d : D} {o : AV} {c : Nat} {xs : List D} {i : Int} {j : Nat} {q : Mem → Out β} (e1 : cellOf? M o = some (c, xs)) (e2 : L2.ixN xs.length i = some j) (h : q (M.set c (some (.l (xs.set j d)))) = res) : setK (.d d) o (.d (.int i)) M q = res := by
  unfold setK
  show (match keepD (.d d) M, AV.d (.int i) with
    | some (d, M4), .d (.int k) => match cellOf? M4 o with
      | some (c, xs) => match L2.ixN xs.length k with
        | some j => q (M4.set c (some (.l (xs.set j d))))
        | none => .bad
      | none => .bad
    | _, _ => .bad) = res
  unfold keepD
  dsimp only
  rw [e1]
  dsimp only
  rw [e2]
  exact h
/-! ### slices -/
def pK (x : AV) (M : Mem) (k : Option Int → Mem → Out β) : Out β := match x with
  | .d (.int i) => k (some i) M
  | _ => .bad
theorem sp_0 {k : Option Int → Mem → Out β} (h : k none M = res) : el (sPart none env M) k kx = res := h
theorem sp_1 {k : Option Int → Mem → Out β} {f : SE} (h : el (f env M) (fun x M1 => pK x M1 k) kx = res) : el (sPart (some f) env M) k kx = res := by
  rw [← h]
  unfold sPart
  dsimp only
  rw [el_bind]
  congr
  funext x M1
  cases x with
  | d z => cases z <;> rfl
  | _ => rfl
theorem pk_i {k : Option Int → Mem → Out β} {i : Int} (h : k (some i) M = res) : pK (.d (.int i)) M k = res := h
theorem e_slice {k : AV → Mem → Out β} {f : SE} {lo hi : Option SE} (h : el (f env M) (fun x M1 => el (sPart lo env M1) (fun i M2 => el (sPart hi env M2) (fun j M3 => el (cutop x i j M3) k kx) kx) kx) kx = res) : el (sSlice f lo hi env M) k kx = res := by
  rw [← h]
  unfold sSlice
  rw [el_bind]
  congr
  funext x M1
  rw [el_bind]
  congr
  funext i M2
  rw [el_bind]
theorem cut_S {k : AV → Mem → Out β} {ns : List Int} {i j : Option Int} (h : k (.fr (cutG (ns.map D.int) i j)) M = res) : el (cutop (.scr ns) i j M) k kx = res := h
theorem cut_L {k : AV → Mem → Out β} {xs : List D} {i j : Option Int} (h : k (.fr (cutG xs i j)) M = res) : el (cutop (.d (.lst xs)) i j M) k kx = res := h
theorem cut_F {k : AV → Mem → Out β} {xs : List D} {i j : Option Int} (h : k (.fr (cutG xs i j)) M = res) : el (cutop (.fr xs) i j M) k kx = res := h
theorem cut_T {k : AV → Mem → Out β} {xs : List D} {i j : Option Int} (h : k (.d (.tup (cutG xs i j))) M = res) : el (cutop (.d (.tup xs)) i j M) k kx = res := h
theorem o_itF {k : Itm → Out β} {xs : List D} (h : k ⟨xs, []⟩ = res) : optK (seqItm M (.fr xs)) k = res := h
theorem o_itL {k : Itm → Out β} {xs : List D} (h : k ⟨xs, []⟩ = res) : optK (seqItm M (.d (.lst xs))) k = res := h
theorem o_itT {k : Itm → Out β} {xs : List D} (h : k ⟨xs, []⟩ = res) : optK (seqItm M (.d (.tup xs))) k = res := h
end
theorem mem_cutG {α : Type} {xs : List α} {i j : Option Int} {x : α} (h : x ∈ cutG xs i j) : x ∈ xs := by
  unfold cutG at h
  exact List.mem_of_mem_drop (List.mem_of_mem_take h)
theorem for_ok {body : SS} {tg : Tg} {I : Env → Mem → Prop} : ∀ (items : List D) (step : ∀ d ∈ items, ∀ env M, I env M → ∃ e env' M', tg.bind d env = some e ∧ body e M = .ok (.next env') M' ∧ I env' M') (env : Env) (M : Mem), I env M → ∃ env' M', forL body tg [] items env M = .ok (.next env') M' ∧ I env' M'
  | [], _, env, M, h => ⟨env, M, rfl, h⟩
  | d :: r, step, env, M, h => by
    obtain ⟨e, env1, M1, e1, e2, h1⟩ := step d List.mem_cons_self env M h
    obtain ⟨env2, M2, e3, h2⟩ := for_ok r (fun d hd => step d (.tail _ hd)) env1 M1 h1
    refine ⟨env2, M2, ?_, h2⟩
    rw [forL, if_pos (by rfl), e1]
    dsimp only
    rw [e2, Out.bind_ok]
    exact e3
theorem ex_of {α : Type} {P : α → Prop} {X Y : α} (e : Y = X) (h : P X) : P Y := e ▸ h
theorem el_start {α : Type} {r r' : Out α} (h : el r (fun a M => .ok a M) (fun e M => .exc e M) = r') : r = r' := by rw [← el_id r]; exact h
theorem e_loop {β : Type} {kx : Exc → Mem → Out β} {res : Out β} {k : Fl → Mem → Out β} {body : SS} {tg : Tg} {items : List D} {env : Env} {M : Mem} (I : Env → Mem → Prop) (h0 : I env M)
    (step : ∀ d ∈ items, ∀ env M, I env M → ∃ e env' M', tg.bind d env = some e ∧ body e M = .ok (.next env') M' ∧ I env' M') (h : ∀ env' M', I env' M' → k (.next env') M' = res) : el (forL body tg [] items env M) k kx = res := by
  obtain ⟨env', M', e, q⟩ := for_ok items step env M h0
  rw [e]
  exact h env' M' q
end Mp

namespace Mp
open PySem L2 PySem.Spec PyProof.Rows

/-! ## a def that is picked by its value, called -/
abbrev FT := List (Str × (List AV → Mem → Out AV))
def sCallV (tab : FT) (f : SE) (l : SL) : SE := fun env M => (f env M).bind fun x M1 => match x with
  | .d (.fn n) => match tab.lookup n with
    | some F => (l env M1).bind fun avs M2 => F avs M2
    | none => .bad
  | _ => .bad
section
variable {X : Cx} {E : WX} {a e t o : Expr} {es : List Expr} {f fo : SE} {l : SL} {pos p q : Pos} {k : Nat}
theorem gn_fn {x : Str} {g : Addr} (h : X.mg x = some (.ref g)) (hg : Gl X x) (hd : (x == ("__debug__" : Str)) = false) : GE X E (.Name x pos) (sCon (.fn x)) :=
  ge_con (pe_glob (v := .ref g) hg h rfl hd) fun _ _ => .fn h
theorem gn_cal {x : Str} {F : List AV → Mem → Out AV} (c : Cald X k x F) (hg : Gl X x) (hd : (x == ("__debug__" : Str)) = false) : GE X E (.Name x pos) (sCon (.fn x)) := by
  obtain ⟨g, fd, ps, h1, _⟩ := c.ex
  exact gn_fn h1 hg hd
theorem ge_callv {tab : FT} {fe : Expr} (ht : ∀ x F, tab.lookup x = some F → Cald X k x F) (hr : Room k X.A) (tk : Takes X E) (hf : GE X E fe f) (hl : GL X E (e :: es) l)
    (hc : eval (.Call fe (e :: es) [] pos) X.env = (do callWith pos (← eval fe X.env) [] (backTo pos (starEach (e :: es) X.env)) []))
    (he : starEach (e :: es) X.env = (false, eval e X.env) :: starEach es X.env) (hpl : (backTo pos (starEach es X.env)).any (·.1) = false) : GE X E (.Call fe (e :: es) [] pos) (sCallV tab f l) := by
  refine ⟨fun pins s σ H Q I h => ?_⟩
  rw [hc]
  obtain ⟨W, Z, φ, env, M, R, Er, h⟩ := h
  refine wpAny_bind (thn (hf.run pins s σ H _ I ⟨W, Z, φ, env, M, R, Er, (Run.bind h)⟩) fun u s1 ⟨v, H1, I1, rv, W1, M1, x, _, R1, x1, r1, h2⟩ => ?_)
  cases x with
  | d y =>
    cases y with
    | fn n =>
      dsimp only at h2
      cases hn : tab.lookup n with
      | none => rw [hn] at h2; exact h2.elim
      | some F =>
        rw [hn] at h2
        dsimp only at h2
        obtain ⟨g, fd, ps, c1, c2, c3, c4⟩ := (ht n F hn).ex
        have r1 : RD (gm X) (Bar W1 Z) H1 (.fn n) v := r1
        cases r1 with
        | fn hm =>
          have e1 := c1.symm.trans hm
          cases e1
          cases rv
          refine PySem.W.callWith_K (h₀ := X.base) I.ok.mod.kin c2 (thn (hl.run pos pins s1 σ H1 _ I1 ⟨W1, Z, φ, env, M1, R1, Er.ext x1.bar, (Run.bind h2)⟩) fun us s2 ⟨vs, H2, I2, r, W2, M2, avs, _, R2, x2, r2, h3⟩ => ⟨I2.kIn, ?_⟩) he hpl
          exact run_fnS c4 hr c3 (fun pins' H' s' e' s'' I' c' => passAt tk σ pins' H' s' e' s'' I' c') I2 r ⟨W2, Z, φ, M2, avs, R2, r2, h3⟩
    | _ => exact h2.elim
  | _ => exact h2.elim

/-! ## pop -/
theorem ge_meth0 {m : List D → List AV → Mem → Option (D × List D × Mem)} {r : V → List V → Hp → VK → Prop} (ho : GE X E o fo) (hp : ∀ {to : TE}, PE X o to → PE X e (tBM0 X.K "list" r to))
    (hm : ∀ (W Z : Addr → Prop) (φ : List Addr) (M : Mem) (H : Hp), Rel (gm X) W Z φ M H → ∀ xs d ys M', m xs [] M = some (d, ys, M') → ∀ p us, H p = some (.lst us) → RDs (gm X) (Bar W Z) H xs us →
      ∃ W' y ws, Rel (gm X) W' Z φ M' H ∧ (∀ a, W' a → W a) ∧ RD (gm X) (Bar W' Z) H d y ∧ RDs (gm X) (Bar W' Z) H ys ws ∧ ∀ Q : VK, Q y (upd H p (.lst ws)) → r (.ref p) [] H Q) : GE X E e (sMeth m fo sNil) :=
  PE.imp (hp ho) fun σ H Q ⟨W, Z, φ, env, M, R, Er, h⟩ => ⟨W, Z, φ, env, M, R, Er, (Run.bind h).imp fun v H1 ⟨W1, M1, x, _, R1, x1, r1, h2⟩ => by
    cases ec : cellOf? M1 x with
    | none => rw [ec] at h2; exact h2.elim
    | some cx =>
      obtain ⟨c, xs⟩ := cx
      rw [ec] at h2
      obtain ⟨rfl, e1⟩ := cellOf_ok ec
      obtain ⟨p, ep, rfl⟩ := id r1.sr
      obtain ⟨_, us, hp, rus⟩ := R1.cell c p _ ep e1
      refine ⟨tyV_list hp, ?_⟩
      exact meth_run (vs := []) (avs := []) R1 r1.sr trivial (hm W1 Z φ M1 H1 R1) h2⟩
theorem pop0_ok {G : Gm} (W Z : Addr → Prop) (φ : List Addr) (M : Mem) (H : Hp) (avs : List AV) (vs : List V) (R : Rel G W Z φ M H) (ra : SRs G (Bar W Z) φ H avs vs) (xs : List D) (d : D) (ys : List D) (M' : Mem) (h : mPop xs avs M = some (d, ys, M')) (p : Addr) (us : List V)
    (hp : H p = some (.lst us)) (rus : RDs G (Bar W Z) H xs us) (h0 : avs = []) : ∃ W' y ws, Rel G W' Z φ M' H ∧ (∀ a, W' a → W a) ∧ RD G (Bar W' Z) H d y ∧ RDs G (Bar W' Z) H ys ws ∧ ∀ Q : VK, Q y (upd H p (.lst ws)) → rPop (.ref p) vs H Q := by
  subst h0
  match vs, ra with
  | [], _ =>
    unfold mPop at h
    dsimp only at h
    split at h
    · rename_i d1 e1
      cases h
      obtain ⟨y, e2, r⟩ := rus.get e1
      exact ⟨W, y, us.dropLast, R, fun _ z => z, r, rus.dropLast, fun Q q => ⟨p, us, y, rfl, rfl, hp, by rw [← rus.length]; exact e2, q⟩⟩
    · cases h
theorem gm_pop (ho : GE X E o fo) {apos : Pos} (hbase : attributeBase o "pop" X.env (eval o X.env) = eval o X.env) (hline : (apos.endLine == pos.line) = true) : GE X E (.Call (.Attribute o "pop" apos) [] [] pos) (sMeth mPop fo sNil) :=
  ge_meth0 ho (fun h => pe_bm0 F.plainAttrs_list F.slot_list_pop F.type_list_pop mt_pop h (hbase := hbase) (hline := hline)) fun W Z φ M H R xs d ys M' h p us hp rus => pop0_ok W Z φ M H [] [] R trivial xs d ys M' h p us hp rus rfl
/-! ## xs[::-1] -/
def revOp : AV → Mem → Out AV := fun x M => match lstOf M x with
  | some xs => .ok (.fr xs.reverse) M
  | none => .bad
def sRevL (f : SE) : SE := sOne revOp f
theorem ge_revL {j : Nat} {p1 p2 p3 : Pos} (ha : GE X E a f) : GE X E (.Subscript a (.Slice none none (some (.UnaryOp .USub (.Constant (.int 1) j p1) p2)) p3) pos) (sRevL f) :=
  PE.imp (pe_revL ha) fun σ H Q ⟨W, Z, φ, env, M, R, Er, h⟩ => ⟨W, Z, φ, env, M, R, Er, (Run.bind h).imp fun v H1 ⟨W1, M1, x, _, R1, x1, r1, h2⟩ => by
    unfold revOp at h2
    cases e : lstOf M1 x with
    | none => rw [e] at h2; exact h2.elim
    | some xs =>
      rw [e] at h2
      obtain ⟨p, vs, rfl, k1, k2, _⟩ := R1.lst r1.sr e
      exact ⟨p, vs, rfl, k1, Run.new R1 h2 k2.reverse⟩⟩
end
end Mp

namespace RvT
open PySem PySem.W PySem.Calls PyProof.Rows HT
section
variable {prog : Program} {w : World} {A : Around} {E : Value → Shared → Prop} {s : Shared}
theorem applied_rev {sl : Addr} {vk : Value} {n : Nat} {Q : Int × Int × Nat → Shared → Prop} (hs : s.heap.IsSliceOf sl .none .none vk) (pk : IsPart vk (some (-1)))
    (h : Q ((n : Int) - 1, -1, n) s) : wpAny (model prog w) A (Builtin.Slice.sliceApplied (.ref sl) (pure (n : Int))) Q E s := by
  obtain ⟨oz, hz, _, hd⟩ := id hs
  unfold Builtin.Slice.sliceApplied Builtin.Slice.sliceFields
  refine wpAny_bind (wpAny_bind (wpAny_field hz hd (x := .none) rfl (wpAny_bind (wpAny_field hz hd (x := .none) rfl (wpAny_bind (wpAny_field hz hd (x := vk) rfl (wpAny_pure ?_)))))))
  refine wpAny_bind (slicePart_ pk ?_)
  show wpAny _ _ (if ((-1 : Int) == 0) = true then _ else _) _ _ s
  rw [if_neg (by decide)]
  refine wpAny_bind (slicePart_none (wpAny_bind (slicePart_none (wpAny_bind (wpAny_pure ?_)))))
  have e1 : Builtin.Slice.sliceAdjust none none (-1) (n : Int) = ((n : Int) - 1, -1) := rfl
  show wpAny _ _ (match Builtin.Slice.sliceAdjust none none (-1) (n : Int) with | (lo, hi) => pure (lo, (-1 : Int), Builtin.Slice.slicePlaces lo hi (-1))) _ _ s
  rw [e1]
  have e2 : Builtin.Slice.slicePlaces ((n : Int) - 1) (-1) (-1) = n := by
    unfold Builtin.Slice.slicePlaces
    rw [if_neg (by decide)]
    by_cases hn : (n : Int) - 1 > -1
    · rw [if_pos hn, show (-(-1) : Int) = 1 from rfl, Int.ediv_one]
      omega
    · rw [if_neg hn]
      omega
  show wpAny _ _ (pure ((n : Int) - 1, (-1 : Int), Builtin.Slice.slicePlaces ((n : Int) - 1) (-1) (-1))) _ _ s
  rw [e2]
  exact wpAny_pure h
theorem pick_rev (xs : Array Value) : ((List.range xs.size).filterMap fun (m : Nat) => xs[(((xs.size : Int) - 1) + (m : Int) * (-1)).toNat]?).toArray = xs.toList.reverse.toArray := by
  congr 1
  have h := krv_all xs
  have e : ∀ m : Nat, (((xs.size : Int) - 1) + (m : Int) * (-1)).toNat = xs.size - 1 - m := fun m => by omega
  simp only [e]
  have h2 : (List.range xs.size).filterMap (fun m => xs[xs.size - 1 - m]?) = ((List.range xs.size).map (fun k => xs.size - 1 - k)).filterMap (xs[·]?) := by
    rw [List.filterMap_map]
    rfl
  rw [h2, krv_range, List.filterMap_reverse, h]
theorem item_rev {t sl : Addr} {items : Array Value} {vk : Value} {Q : Value → Shared → Prop} (ht : IsTup s.heap t items) (hs : s.heap.IsSliceOf sl .none .none vk) (pk : IsPart vk (some (-1))) (hsz : items.size ≤ sizeLine)
    (h : Q (.ref s.heap.objs.size) { s with heap := s.heap.push { cls := .type "tuple", data := .seq items.toList.reverse.toArray } }) : wpAny (model prog w) A (getItem (.ref t) (.ref sl)) Q E s := by
  have hfit : sizeOk (.seq items.toList.reverse.toArray) := by
    show items.toList.reverse.toArray.size ≤ sizeLine
    rw [List.size_toArray, List.length_reverse, Array.length_toList]
    exact hsz
  obtain ⟨oz, hz, hcz, _⟩ := id hs
  have hTs : s.TypeIs (.ref sl) "slice" := ⟨oz, hz, hcz⟩
  unfold getItem
  try with_reducible refine wpAny_holding ?_
  first | refine wpAny_bind (wpAny_pure ?_) | skip
  refine wpAny_bind (wpAny_sequenceKey ht.typeIs (by decide) ?_)
  refine wpAny_bind (wpAny_callSpecial?_slot (name := Str.ofString "__getitem__") ht.typeIs PyProof.Rows.slot_tuple_getitem (wpAny_call_entry PyProof.Rows.slot_tuple_getitem ht.typeIs entry_tuple_getitem ?_ (args_tuple_getitem _ _)))
  show wpAny _ _ (Builtin.Tuple.tupleItemsOf (.ref t) >>= _) _ _ s
  refine wpAny_bind (tupleItemsOf_ ht (wpAny_bind (wpAny_typeOf hTs ?_)))
  rw [if_pos (by decide)]
  refine wpAny_bind (applied_rev hs pk ?_)
  have hno : ¬ ((((items.size : Int) - 1) == 0 && (-1 : Int) == 1 && items.size == items.size) = true) := by simp
  show wpAny _ _ (if (((items.size : Int) - 1) == 0 && (-1 : Int) == 1 && items.size == items.size) = true then _ else _) _ _ s
  rw [if_neg hno, pick_rev]
  first
    | exact wpAny_bind (m := Builtin.Tuple.tupleExact _) (wpAny_newObj_type (wpAny_pure ⟨_, rfl, wpAny_pure h⟩) hfit)
    | exact wpAny_bind (m := Builtin.Tuple.tupleExact _) (wpAny_newObj_type (wpAny_bind (wpAny_pure (wpAny_pure ⟨_, rfl, wpAny_pure h⟩))) hfit)
    | exact wpAny_bind (wpAny_bind (m := Builtin.Tuple.tupleExact _) (wpAny_newObj_type (wpAny_pure (wpAny_pure ⟨_, rfl, wpAny_pure h⟩)) hfit))
    | exact wpAny_bind (wpAny_bind (m := Builtin.Tuple.tupleExact _) (wpAny_newObj_type (wpAny_pure ⟨_, rfl, wpAny_pure h⟩) hfit))
end
end RvT
namespace L2
open PySem PySem.Spec PyProof.Rows
/-- t[::-1] of a tuple -/
def tRevT (K : PySem.W.Frag) (te : TE) : TE := fun σ H Q => te σ H fun x H1 => ∃ a xs, x = .ref a ∧ SqT K H1 a xs ∧ ∀ p, H1 p = none → Q (.ref p) (upd H1 p (.tup xs.reverse))
theorem pe_rev2 {X : Cx} {e : Expr} {te tf : TE} {k : Nat} {p1 p2 p3 pos : Pos} (he : PE X e te) :
    PE X (.Subscript e (.Slice none none (some (.UnaryOp .USub (.Constant (.int 1) k p1) p2)) p3) pos) (fun σ H Q => te σ H fun x H1 => (∃ a xs, x = .ref a ∧ SqL X.K H1 a xs ∧ ∀ p, H1 p = none → Q (.ref p) (upd H1 p (.lst xs.reverse))) ∨
      ∃ a xs, x = .ref a ∧ SqT X.K H1 a xs ∧ ∀ p, H1 p = none → Q (.ref p) (upd H1 p (.tup xs.reverse))) := by
  refine ⟨fun pins s σ H Q I h => ?_⟩
  refine Subscript_ (thn (he.run pins s σ H _ I h) fun v s1 ⟨x, H1, I1, r1, q1⟩ => ?_)
  have hst : PO X (some (.UnaryOp .USub (.Constant (.int 1) k p1) p2)) (tPart (tUn (rU fun i => .int (-i)) (tC (.int 1)))) := po_some (pe_un un_neg pe_int)
  refine wpAny_Slice (thn (po_none.run pins s1 σ H1 (fun o H2 => o = none ∧ H2 = H1) I1 ⟨rfl, rfl⟩) fun vl s2 ⟨l, H2, I2, pl, el, e2⟩ => ?_)
  subst el e2
  refine thn (po_none.run pins s2 σ H2 (fun o H3 => o = none ∧ H3 = H2) I2 ⟨rfl, rfl⟩) fun vu s3 ⟨u, H3, I3, pu, eu, e3⟩ => ?_
  subst eu e3
  refine thn (hst.run pins s3 σ H3 (fun o H4 => o = some (-1) ∧ H4 = H3) I3 ⟨1, rfl, -1, rfl, rfl, rfl⟩) fun vs s4 ⟨o, H4, I4, ps, eo, e4⟩ => ?_
  subst eo e4
  have I5 : Inv X pins σ H4 { s4 with heap := s4.heap.push { cls := .type "slice", data := .fields #[vl, vu, vs] } } := I4.kept (t' := s4.toks) fun b ob q => Heap.get?_push_of_some _ q
  rcases q1 with ⟨a, xs, ex, hx, q⟩ | ⟨a, xs, ex, hx, q⟩
  · subst ex
    cases r1
    obtain ⟨its, r, ht, hz⟩ := I5.list hx
    have hlen := r.length
    show wpAny (model X.prog X.w) X.A (subscriptTail e (.Slice none none (some (.UnaryOp .USub (.Constant (.int 1) k p1) p2)) p3) (.ref a) (.ref s4.heap.objs.size)) (EP X pins σ Q) X.xe { s4 with heap := s4.heap.push { cls := .type "slice", data := .fields #[vl, vu, vs] } }
    refine tail_any (ops := [.ref a, .ref s4.heap.objs.size]) ht.isList.typeIs (PySem.slot_list_getitem.lookup) ?_ (by with_unfolding_all rfl)
    refine wpAny_getItem_list_slice ht.isList (Heap.IsSliceOf.new _ vl vu vs) pl pu ps (by decide) ?_ (by rw [List.size_toArray]; omega)
    rw [PySem.W.krv_pick]
    refine ⟨.ref _, _, I5.laid (t' := s4.toks) (o := .lst xs.reverse) (fun b ob q => Heap.get?_push_of_some _ q) (Nat.le_refl _) ?_, rfl, q _ (I5.hok.fresh (Nat.le_refl _))⟩
    exact ⟨by rw [List.length_reverse]; exact hz, _, 0, r.reverse, Heap.get?_push_size _ rfl⟩
  · subst ex
    cases r1
    cases pl
    cases pu
    obtain ⟨its, r, ht, hz⟩ := I5.tuple hx
    have hlen := r.length
    show wpAny (model X.prog X.w) X.A (subscriptTail e (.Slice none none (some (.UnaryOp .USub (.Constant (.int 1) k p1) p2)) p3) (.ref a) (.ref s4.heap.objs.size)) (EP X pins σ Q) X.xe { s4 with heap := s4.heap.push { cls := .type "slice", data := .fields #[.none, .none, vs] } }
    refine tail_any (ops := [.ref a, .ref s4.heap.objs.size]) ht.typeIs (PyProof.Rows.slot_tuple_getitem.lookup) ?_ (by with_unfolding_all rfl)
    refine RvT.item_rev ht (Heap.IsSliceOf.new _ .none .none vs) ps (by rw [List.size_toArray]; omega) ?_
    refine ⟨.ref _, _, I5.laid (t' := s4.toks) (o := .tup xs.reverse) (fun b ob q => Heap.get?_push_of_some _ q) (Nat.le_refl _) ?_, rfl, q _ (I5.hok.fresh (Nat.le_refl _))⟩
    exact ⟨by rw [List.length_reverse]; exact hz, _, r.reverse, IsTup.new _ _⟩
end L2
namespace Mp
open PySem L2 PySem.Spec PyProof.Rows
def rev2Op : AV → Mem → Out AV := fun x M => match lstOf M x, tupOf x with
  | some xs, _ => .ok (.fr xs.reverse) M
  | none, some xs => .ok (.d (.tup xs.reverse)) M
  | none, none => .bad
def sRev (f : SE) : SE := sOne rev2Op f
theorem ge_rev {X : Cx} {E : WX} {a : Expr} {f : SE} {j : Nat} {p1 p2 p3 pos : Pos} (ha : GE X E a f) : GE X E (.Subscript a (.Slice none none (some (.UnaryOp .USub (.Constant (.int 1) j p1) p2)) p3) pos) (sRev f) :=
  PE.imp (pe_rev2 (tf := rdE (gm X) f E) ha) fun σ H Q ⟨W, Z, φ, env, M, R, Er, h⟩ => ⟨W, Z, φ, env, M, R, Er, (Run.bind h).imp fun v H1 ⟨W1, M1, x, _, R1, x1, r1, h2⟩ => by
    unfold rev2Op at h2
    cases e : lstOf M1 x with
    | some xs =>
      rw [e] at h2
      obtain ⟨p, vs, rfl, k1, k2, _⟩ := R1.lst r1.sr e
      exact .inl ⟨p, vs, rfl, k1, Run.new R1 h2 k2.reverse⟩
    | none =>
      cases e2 : tupOf x with
      | none => rw [e, e2] at h2; exact h2.elim
      | some xs =>
        rw [e, e2] at h2
        obtain ⟨p, vs, rfl, k1, k2⟩ := tup_met r1.sr e2
        exact .inr ⟨p, vs, rfl, k1.sq, Run.tup R1 h2 k2.reverse⟩⟩
theorem tab_nil {X : Cx} {k : Nat} : ∀ (y : Str) (G : List AV → Mem → Out AV), ([] : FT).lookup y = some G → Cald X k y G := fun _ _ h => by cases h
theorem tab_cons {X : Cx} {k : Nat} {x : Str} {F : List AV → Mem → Out AV} {tab : FT} (c : Cald X k x F) (r : ∀ (y : Str) (G : List AV → Mem → Out AV), tab.lookup y = some G → Cald X k y G) :
    ∀ (y : Str) (G : List AV → Mem → Out AV), (((x, F) :: tab : FT)).lookup y = some G → Cald X k y G := fun y G h => by
  rw [List.lookup_cons] at h
  split at h
  · rename_i e
    cases h
    rw [eq_of_beq e]
    exact c
  · exact r y G h
end Mp

namespace EnT
open PySem
open Sem (wp)
open AutoSeq1 (wpAny_loadPart')
set_option maxHeartbeats 1000000 in
theorem new_tup (t : Addr) (items : Array Value) (n : Nat) (dct : Option Addr) (sl : Array (Option Value)) :
    Meets (Builtin.«enumerate.__new__» ⟨[.type "enumerate", .ref t], []⟩) (fun _ R s => s.heap.get? t = some { cls := .type "tuple", dict := dct, data := .seq items n, slots := sl } ∧
      R (.ok (.ret (.ref (s.heap.push { cls := .type "tuple_iterator", data := .fields #[.ref t, .int 0 0] }).objs.size)))
        { s with heap := (s.heap.push { cls := .type "tuple_iterator", data := .fields #[.ref t, .int 0 0] }).push { cls := .type "enumerate", data := .fields #[.none, .bool false, .ref s.heap.objs.size, rawInt 0, .none, .none] } }) :=
  .of_wp fun prog w A R s h => by
    obtain ⟨hp, g, d, tk, os⟩ := s; obtain ⟨hl, h⟩ := h
    have hsub := sub_enumerate
    have hL : Heap.IsTuple (Shared.heap ⟨hp, g, d, tk, os⟩) t items := ⟨_, hl, rfl, n, rfl⟩
    wp_walk using wpAny_loadPart' hl
    refine wpAny_stack_any fun st => wpAny_pure ?_
    split
    · rename_i c _ _ _ _ _
      cases (c == Value.type "enumerate")
      · wp_walk using wpAny_loadPart' hl, wpAny_pyIter_tuple hL
        exact ⟨_, rfl, h⟩
      · wp_walk using wpAny_loadPart' hl, wpAny_pyIter_tuple hL
        exact ⟨_, rfl, h⟩
    · wp_walk using wpAny_loadPart' hl, wpAny_pyIter_tuple hL
      exact ⟨_, rfl, h⟩
section
variable {prog : Program} {w : World} {A : Around} {E : Value → Shared → Prop} {s : Shared}
theorem call_tup {t : Addr} {items : Array Value} {Q : Value → Shared → Prop} (hL : s.heap.IsTuple t items)
    (h : ∀ h', IsEnum h' (s.heap.objs.size + 1) s.heap.objs.size 0 .none → h'.IsTupleIter s.heap.objs.size t 0 → h'.objs.size = s.heap.objs.size + 2 →
      (∀ b o, s.heap.get? b = some o → h'.get? b = some o) → Q (.ref (s.heap.objs.size + 1)) { s with heap := h' }) :
    wpAny (model prog w) A (call (.type "enumerate") [.ref t]) Q E s := by
  obtain ⟨⟨c, dct, dt, sl⟩, hl, hc, n, hd⟩ := hL
  replace hc : c = .type "tuple" := hc
  replace hd : dt = .seq items n := hd
  subst hc hd
  refine callType_new F.called_enumerate (by decide) (F.typeCall_enumerate_1 _) (F.newCall_enumerate_1 _) (fun obj => F.args_object_init_2 obj _) F.entry_enumerate_new (new_tup t items n dct sl) ⟨hl, ?_⟩
  have hz : (s.heap.push { cls := .type "tuple_iterator", data := .fields #[.ref t, .int 0 0] }).objs.size = s.heap.objs.size + 1 := Heap.size_push ..
  show _ ∧ _
  rw [hz]
  have he : IsEnum ((s.heap.push { cls := .type "tuple_iterator", data := .fields #[.ref t, .int 0 0] }).push
      { cls := .type "enumerate", data := .fields #[.none, .bool false, .ref s.heap.objs.size, rawInt 0, .none, .none] }) (s.heap.objs.size + 1) s.heap.objs.size 0 .none := by
    have z := Heap.get?_push_size (s.heap.push { cls := .type "tuple_iterator", data := .fields #[.ref t, .int 0 0] })
      (o := { cls := .type "enumerate", data := .fields #[.none, .bool false, .ref s.heap.objs.size, rawInt 0, .none, .none] }) rfl
    rw [hz] at z
    exact z
  exact ⟨⟨_, he, rfl⟩, h _ he ⟨_, Heap.get?_push_of_some _ (Heap.get?_push_size _ rfl), rfl, rfl⟩ (by rw [Heap.size_push, hz]) fun b o x => Heap.get?_push_of_some _ (Heap.get?_push_of_some _ x)⟩
end
theorem draws_tup {prog : Program} {w : World} {A : Around} (hh : A.handled = none) (it t : Addr) (hne : t ≠ it) (items : Array Value) :
    Draws prog w A it [it, t] items.size (fun i v => items[i]? = some v) (fun i h => h.IsTupleIter it t i ∧ h.IsTuple t items) where
  live := fun _ _ st => let ⟨o, ho, _⟩ := st.1; ⟨o, ho⟩
  frame := fun _ _ _ st hk => ⟨st.1.at fun o e => hk it (by simp) o e, let ⟨o, e, r⟩ := st.2; ⟨o, hk t (by simp) o e, r⟩⟩
  item := fun i s Q E hi st hQ => by
    refine RZ.nextOf_tuple_item st.1 st.2 (x := items[i]) (by simp [hi]) fun h' hit' hs' => ?_
    exact hQ _ h' s.toks (by simp [hi]) ⟨hit', let ⟨o, e, r⟩ := st.2; ⟨o, hs'.extBut t o hne e, r⟩⟩ hs'
  done := fun s Q E st hE => RZ.nextOf_tuple_end hh st.1 st.2 (by simp) hE
theorem draws_end {prog : Program} {w : World} {A : Around} (hh : A.handled = none) (it t : Addr) (items : Array Value) (i : Nat) (hi : items[i]? = none) :
    Draws prog w A it [it, t] 0 (fun _ _ => False) (fun _ h => h.IsTupleIter it t i ∧ h.IsTuple t items) where
  live := fun _ _ st => let ⟨o, ho, _⟩ := st.1; ⟨o, ho⟩
  frame := fun _ _ _ st hk => ⟨st.1.at fun o e => hk it (by simp) o e, let ⟨o, e, r⟩ := st.2; ⟨o, hk t (by simp) o e, r⟩⟩
  item := fun i s Q E hi st hQ => absurd hi (Nat.not_lt_zero _)
  done := fun s Q E st hE => RZ.nextOf_tuple_end hh st.1 st.2 hi hE
end EnT
namespace L2
open PySem PySem.Spec PyProof.Rows
/-- the tuple at a, each item in a new pair with its place -/
def IteT (K : PySem.W.Frag) (a : Addr) : It :=
  ⟨fun i H => ∃ (xs : List V) (x : V), SqT K H a xs ∧ xs[i]? = some x, fun i H v H' => ∃ T x, v = .ref T ∧ H T = none ∧ H' = upd H T (.tup [.int (i : Nat), x]) ∧ ∀ xs, SqT K H a xs → xs[i]? = some x, fun i H => ∃ xs : List V, SqT K H a xs ∧ xs.length ≤ i⟩
theorem turn_enumT {P : Program} {w : World} {K : PySem.W.Frag} {elts : List Expr} {kk : Nat} {tpos : Pos} (a e it : Addr) (hai : a ≠ it) (hae : a ≠ e) :
    Turn P w K (.Tuple elts kk tpos) (IteT K a) [e, it] e (fun i h => (∃ old, IsEnum h e it ((i : Nat) : Int) old) ∧ h.IsTupleIter it a i ∧ e ≠ it) where
  mem := by simp
  obj := fun i h st b hb => by
    obtain ⟨⟨old, he⟩, ⟨o, ho, hc, hd⟩, _⟩ := st
    have e' : b = e ∨ b = it := by simpa using hb
    rcases e' with z | z
    · rw [z]; exact ⟨_, he, fun v q => nomatch q⟩
    · rw [z]; exact ⟨o, ho, fun v q => by rw [hd] at q; cases q⟩
  keep := fun i h h' st k => let ⟨⟨old, he⟩, hi, hne⟩ := st; ⟨⟨old, k e (by simp) _ he⟩, hi.at fun o q => k it (by simp) o q, hne⟩
  item := by
    intro X hP hw hK hc i pins s σ H E I hf st hg
    subst hP hw hK
    obtain ⟨⟨old, he⟩, hit, hne⟩ := st
    obtain ⟨xs, x, hq, hx⟩ := hg
    obtain ⟨its, rv, p, hz⟩ := I.tuple hq
    obtain ⟨u, hu, ru⟩ := rv.get hx
    have hel : e < s.heap.objs.size := Heap.lt_size he
    have hil : it < s.heap.objs.size := by obtain ⟨_, q, _⟩ := hit; exact Heap.lt_size q
    have hT0 : s.heap.IsTuple a its.toArray := p
    have hlt : i < its.toArray.size := by
      rw [List.size_toArray]
      exact (List.getElem?_eq_some_iff.mp hu).1
    refine wpAny_pyNext_enum_itemD (EnT.draws_tup (A := X.A.in1) (I.ok.hd hc) it a hai its.toArray) he ⟨hit, hT0⟩ hlt hne (by simp; exact ⟨hne, fun z => hae z.symm⟩) fun y h' tk hy ho hit' hT hsz hk => ?_
    have ey : y = u := by
      rw [List.getElem?_toArray, hu] at hy
      exact (Option.some.inj hy).symm
    subst ey
    refine ⟨_, rfl, wpAny_letOwnedTupleGo_enum (s := { s with heap := h', toks := tk + 1 }) ho fun h'' he' sb => ?_⟩
    have hT2 : h''.get? s.heap.objs.size = some { cls := .type "tuple", data := .seq #[.int i tk, y] } := (sb.2 _ (Nat.ne_of_gt hel)).trans hT
    have new : ObjOk X.prog X.w (upd H s.heap.objs.size (.tup [.int (i : Nat), x])) h'' s.heap.objs.size (.tup [.int (i : Nat), x]) :=
      ⟨by show 2 ≤ sizeLine; decide, [.int i tk, y], .cons ⟨_, rfl⟩ (.cons ru .nil), ⟨_, hT2, rfl, _, rfl⟩⟩
    have I1 : Inv X pins σ (upd H s.heap.objs.size (.tup [.int (i : Nat), x])) { s with heap := h'', toks := tk + 1 } :=
      I.turnedNew (ch := [e, it]) (fun b ob hb q => (sb.2 b (fun z => hb (by simp [z]))).trans (hk b ob (fun z => hb (by simp [z])) (fun z => hb (by simp [z])) q)) hf (Nat.le_refl _) new
    refine ⟨.ref s.heap.objs.size, _, I1, rfl, ⟨_, x, rfl, I.hok.fresh (Nat.le_refl _), rfl, fun ys hy => ?_⟩, ⟨⟨y, ?_⟩, hit'.1.at fun o q => (sb.2 it (Ne.symm hne)).trans q, hne⟩, fun b hb => ?_⟩
    · rw [I.tuple_inj hy hq]; exact hx
    · have e1 : ((i + 1 : Nat) : Int) = (i : Int) + 1 := by omega
      rw [e1]; exact he'
    · have hb' : b < s.heap.objs.size := by
        have e' : b = e ∨ b = it := by simpa using hb
        rcases e' with z | z
        · rw [z]; exact hel
        · rw [z]; exact hil
      rw [upd_ne (Nat.ne_of_lt hb')]
      exact (hf b hb).1
  done := by
    intro X hP hw hK hc i pins s σ H E I hf st hg
    subst hP hw hK
    obtain ⟨⟨old, he⟩, hit, hne⟩ := st
    obtain ⟨xs, hq, hx⟩ := hg
    obtain ⟨its, rv, p, hz⟩ := I.tuple hq
    obtain ⟨f0, f1, f2, f3, f4, f5⟩ := hf it (by simp)
    have hl := rv.length
    exact wpAny_pyNext_enum_endD (EnT.draws_end (A := X.A.in1) (I.ok.hd hc) it a its.toArray i (by rw [List.getElem?_toArray]; exact List.getElem?_eq_none (by omega))) he ⟨hit, p⟩ fun h' eb => ⟨rfl, I.turned (t' := s.toks) (fun b o hb q => eb b o hb q) f0 f1 f3 f4 f5⟩
  self := fun A i s Q E st h => let ⟨⟨_, he⟩, _⟩ := st; wpAny_pyIter_enum he h
/-- enumerate(x): x a list, a tuple -/
theorem pi_enum2 {X : Cx} {e : Expr} {ta : TA} {p pos tpos : Pos} {elts : List Expr} {kk : Nat} (hg : Gl X "enumerate") (hm : X.mg "enumerate" = none) (ha : PA X [e] ta) (hs : starEach [e] X.env = [(false, eval e X.env)]) :
    PI X (.Tuple elts kk tpos) (.Call (.Name "enumerate" p) [e] [] pos) (fun σ H R => ta σ H fun vs H1 => (∃ a xs, vs = [.ref a] ∧ SqL X.K H1 a xs ∧ R (Ite X.K a) H1) ∨ ∃ a xs, vs = [.ref a] ∧ SqT X.K H1 a xs ∧ R (IteT X.K a) H1) := by
  refine ⟨fun pins s σ H R I h => ?_⟩
  refine Call_ (ld_blt I hg hm boot_enumerate (PyProof.Rows.callWith_type1 (thn (ha.run pos pins s σ H _ I h) fun us s1 ⟨vs, H1, I1, r1, q1⟩ => ?_) hs rfl))
  have room : ∀ b, b ∈ [s1.heap.objs.size + 1, s1.heap.objs.size] → s1.heap.objs.size ≤ b := fun b hb => by
    have e' : b = s1.heap.objs.size + 1 ∨ b = s1.heap.objs.size := by simpa using hb
    rcases e' with z | z
    · rw [z]; exact Nat.le_add_right _ _
    · rw [z]; exact Nat.le_refl _
  rcases q1 with ⟨a, xs, ex, hq, q⟩ | ⟨a, xs, ex, hq, q⟩
  · subst ex
    cases r1 with
    | cons r rr =>
      cases rr
      cases r
      obtain ⟨its, rv, p', hz⟩ := I1.list hq
      refine call_enumerate_list p'.isList fun h' he hit hsz hk => wpAny_pyIter_enum he ?_
      have I2 : Inv X pins σ H1 { s1 with heap := h' } := I1.kept (t' := s1.toks) hk
      exact ⟨s1.heap.objs.size + 1, [s1.heap.objs.size + 1, s1.heap.objs.size], _, _, H1, rfl, I2, turn_enum a (s1.heap.objs.size + 1) s1.heap.objs.size, ⟨⟨.none, he⟩, hit, Nat.succ_ne_self _⟩, fun b hb => I1.fpOk (room b hb) (I1.hok.fresh (room b hb)), q⟩
  · subst ex
    cases r1 with
    | cons r rr =>
      cases rr
      cases r
      obtain ⟨its, rv, p', hz⟩ := I1.tuple hq
      have hlt : a < s1.heap.objs.size := by obtain ⟨o, e, _⟩ := id p'; exact Heap.lt_size e
      refine EnT.call_tup p' fun h' he hit hsz hk => wpAny_pyIter_enum he ?_
      have I2 : Inv X pins σ H1 { s1 with heap := h' } := I1.kept (t' := s1.toks) hk
      exact ⟨s1.heap.objs.size + 1, [s1.heap.objs.size + 1, s1.heap.objs.size], _, _, H1, rfl, I2, turn_enumT a (s1.heap.objs.size + 1) s1.heap.objs.size (Nat.ne_of_lt hlt) (Nat.ne_of_lt (Nat.lt_succ_of_lt hlt)), ⟨⟨.none, he⟩, hit, Nat.succ_ne_self _⟩, fun b hb => I1.fpOk (room b hb) (I1.hok.fresh (room b hb)), q⟩
end L2
namespace Mp
open PySem L2 PySem.Spec PyProof.Rows
def enumItm2 (M : Mem) : List AV → Option Itm
  | [x] => match lstOf M x, tupOf x with
    | some xs, _ => some ⟨enumL 0 xs, depOf x xs⟩
    | none, some xs => some ⟨enumL 0 xs, []⟩
    | none, none => none
  | _ => none
theorem walk_enumT {K : PySem.W.Frag} {a : Addr} {n : Nat} : Walk (IteT K a) n (fun H => ∃ vs, SqT K H a vs ∧ vs.length = n)
    (fun i H v H' => ∃ T x, v = .ref T ∧ H T = none ∧ H' = upd H T (.tup [.int (i : Nat), x]) ∧ ∀ vs, SqT K H a vs → vs[i]? = some x) :=
  ⟨fun i H hi ⟨vs, q, e⟩ => ⟨vs, vs[i]'(by omega), q, by simp [e, hi]⟩, fun H ⟨vs, q, e⟩ => ⟨vs, q, by omega⟩, fun _ _ _ _ _ _ y => y⟩
theorem gi_enum2 {X : Cx} {E : WX} {a : Expr} {es : List Expr} {l : SL} {pos p tpos : Pos} {kk : Nat} (hg : Gl X "enumerate") (hm : X.mg "enumerate" = none) (hs : starEach [a] X.env = [(false, eval a X.env)]) (hl : GL X E [a] l) : GI X E (.Tuple es kk tpos) (.Call (.Name "enumerate" p) [a] [] pos) (sItm enumItm2 l) :=
  PI.imp (pi_enum2 hg hm hl hs) fun σ H Q ⟨W, Z, φ, env, M, R, Er, h⟩ => ⟨W, Z, φ, env, M, R, Er, (RunI.bind h).imp fun vs H1 ⟨W1, M1, avs, e, R1, x1, r1, h2⟩ => by
    unfold enumItm2 at h2
    split at h2
    · rename_i it e2
      split at e2
      · obtain ⟨v, rfl, r⟩ := r1.one
        split at e2
        · rename_i xs el
          cases e2
          obtain ⟨p, rfl, ⟨vs, hq⟩, hL⟩ := lst_later R1 r el
          refine .inl ⟨p, vs, rfl, hq, IR.run R1 h2 ⟨_, _, walk_enumA, fun Z' W ψ M H L => ?_, fun i y H' Z' W ψ M H L hi hy => ?_⟩⟩
          · obtain ⟨vs, h1, h2⟩ := hL _ Z' W ψ M H (fun _ z => z) L
            exact ⟨vs, h1, by rw [← h2.length]; exact (enumL_len xs 0).symm⟩
          · obtain ⟨vs, h1, h2⟩ := hL _ Z' W ψ M H (fun _ z => z) L
            obtain ⟨T, u, rfl, hT, rfl, hy⟩ := hy
            have hy := hy vs h1
            have hi : i < xs.length := by simpa [enumL_len] using hi
            obtain ⟨w, e1, r1⟩ := h2.get (show xs[i]? = some xs[i] by simp [hi])
            rw [hy] at e1; cases e1
            obtain ⟨p1, p2, p3⟩ := pair_new L.rel hT (.int (i : Int)) r1
            refine ⟨_, enumL_at (show xs[i]? = some xs[i] by simp [hi]), p1, p2, ?_⟩
            rw [Nat.zero_add]
            exact p3
        · rename_i xs _ et
          cases e2
          obtain ⟨p, vs, rfl, t1, d1⟩ := tup_met r et
          refine .inr ⟨p, vs, rfl, t1.sq, IR.run R1 h2 ⟨_, _, walk_enumT, fun Z' W ψ M H L => ?_, fun i y H' Z' W ψ M H L hi hy => ?_⟩⟩
          · exact ⟨vs, (t1.ext L.rd).sq, by rw [← d1.length]; exact (enumL_len xs 0).symm⟩
          · obtain ⟨T, u, rfl, hT, rfl, hy⟩ := hy
            have hy := hy vs (t1.ext L.rd).sq
            have hi : i < xs.length := by simpa [enumL_len] using hi
            obtain ⟨w, e1, r1⟩ := (d1.ext L.rd).get (show xs[i]? = some xs[i] by simp [hi])
            rw [hy] at e1; cases e1
            obtain ⟨p1, p2, p3⟩ := pair_new L.rel hT (.int (i : Int)) r1
            refine ⟨_, enumL_at (show xs[i]? = some xs[i] by simp [hi]), p1, p2, ?_⟩
            rw [Nat.zero_add]
            exact p3
        · cases e2
      · cases e2
    · exact h2.elim⟩
end Mp

namespace Mp
open PySem

/-! ## more of stepping: while, walks over data, methods, picked defs -/
theorem while_n {c : SB} {body : SS} {I P : Env → Mem → Prop} (μ : Env → Mem → Nat)
    (step : ∀ env M, I env M → (c env M = .ok false M ∧ P env M) ∨ (c env M = .ok true M ∧ ∃ env' M', body env M = .ok (.next env') M' ∧ I env' M' ∧ μ env' M' < μ env M)) :
    ∀ (n : Nat) (env : Env) (M : Mem), I env M → μ env M < n → ∃ env' M', whileF c body n env M = .ok (.next env') M' ∧ P env' M'
  | 0, _, _, _, h => absurd h (Nat.not_lt_zero _)
  | n + 1, env, M, h, hn => by
    unfold whileF
    rcases step env M h with ⟨e, q⟩ | ⟨e, env', M', e2, q, hm⟩
    · rw [e]
      exact ⟨env, M, rfl, q⟩
    · obtain ⟨env2, M2, e3, q2⟩ := while_n μ step n env' M' q (by omega)
      rw [e]
      refine ⟨env2, M2, ?_, q2⟩
      show ((body env M).bind _) = _
      rw [e2]
      exact e3
theorem big_le : 2 ^ 200 ≤ bigF := by
  unfold bigF
  exact Nat.pow_le_pow_right (Nat.le_succ 1) (by decide)
theorem e_while {β : Type} {kx : Exc → Mem → Out β} {res : Out β} {k : Fl → Mem → Out β} {c : SB} {body : SS} {env : Env} {M : Mem} (I P : Env → Mem → Prop) (μ : Env → Mem → Nat) (h0 : I env M)
    (step : ∀ env M, I env M → (c env M = .ok false M ∧ P env M) ∨ (c env M = .ok true M ∧ ∃ env' M', body env M = .ok (.next env') M' ∧ I env' M' ∧ μ env' M' < μ env M)) (hμ : μ env M < 2 ^ 200)
    (h : ∀ env' M', P env' M' → k (.next env') M' = res) : el (sWhile c body env M) k kx = res := by
  unfold sWhile
  obtain ⟨env', M', e, q⟩ := while_n μ step bigF env M h0 (Nat.lt_of_lt_of_le hμ big_le)
  rw [e]
  exact h env' M' q
theorem comp_ok {f : SE} {c : SB} {tg : Tg} {vs : List Nat} {env : Env} {M : Mem} {g : D → D} {p : D → Bool} : ∀ (items acc : List D)
    (h : ∀ d ∈ items, ∃ e, tg.bind d (wipeE env vs) = some e ∧ c e M = .ok (p d) M ∧ (p d = true → ∃ av, f e M = .ok av M ∧ keepD av M = some (g d, M))) (hl : acc.length + items.length ≤ 1000000),
    compL f c tg vs [] env items acc M = .ok (.fr (acc ++ (items.filter p).map g)) M
  | [], acc, _, _ => by simp [compL, depsOk]
  | d :: r, acc, h, hl => by
    obtain ⟨e, e1, e2, e3⟩ := h d List.mem_cons_self
    have hr := fun d hd => h d (.tail _ hd)
    rw [List.length_cons] at hl
    rw [compL, if_pos (by rfl), e1]
    dsimp only
    rw [e2]
    cases hp : p d with
    | false =>
      dsimp only
      rw [comp_ok r acc hr (by omega), List.filter_cons_of_neg (by rw [hp]; decide)]
    | true =>
      obtain ⟨av, e4, e5⟩ := e3 hp
      dsimp only
      rw [e4]
      dsimp only
      rw [e5]
      dsimp only
      have hs : acc.length < sizeLine := Nat.lt_of_lt_of_le (show acc.length < 1000001 by omega) (by decide)
      rw [if_pos hs, comp_ok r (acc ++ [g d]) hr (by rw [List.length_append, List.length_singleton]; omega), List.filter_cons_of_pos hp, List.map_cons, List.append_assoc, List.singleton_append]
theorem e_compE {β : Type} {kx : Exc → Mem → Out β} {res : Out β} {k : AV → Mem → Out β} {f : SE} {c : SB} {tg : Tg} {vs : List Nat} {env : Env} {M : Mem} {items : List D} (g : D → D) (p : D → Bool)
    (h : ∀ d ∈ items, ∃ e, tg.bind d (wipeE env vs) = some e ∧ c e M = .ok (p d) M ∧ (p d = true → ∃ av, f e M = .ok av M ∧ keepD av M = some (g d, M))) (hl : items.length ≤ 1000000)
    (q : k (.fr ((items.filter p).map g)) M = res) : el (compL f c tg vs [] env items [] M) k kx = res := by
  rw [comp_ok items [] h (by simpa using hl)]
  exact q
section
variable {β : Type} {kx : Exc → Mem → Out β} {res : Out β} {env : Env} {M : Mem}
def gK (b : Bool) (r : Out β) : Out β := if b = true then r else .bad
theorem gk_t {b : Bool} {r : Out β} (e : b = true) (h : r = res) : gK b r = res := by unfold gK; rw [if_pos e]; exact h
def mK (m : List D → List AV → Mem → Option (D × List D × Mem)) (o : AV) (avs : List AV) (M : Mem) (k : AV → Mem → Out β) : Out β := match cellOf? M o with
  | none => .bad
  | some (_, xs) => match m xs avs M with
    | none => .bad
    | some (d, ys, M3) => match cellOf? M3 o with
      | none => .bad
      | some (c, _) => k (.d d) (M3.set c (some (.l ys)))
theorem e_meth {m : List D → List AV → Mem → Option (D × List D × Mem)} {fo : SE} {l : SL} {k : AV → Mem → Out β} (h : el (fo env M) (fun o M1 => gK (cellOf? M1 o).isSome (el (l env M1) (fun avs M2 => mK m o avs M2 k) kx)) kx = res) : el (sMeth m fo l env M) k kx = res := by
  rw [← h]
  unfold sMeth
  rw [el_bind]
  congr
  funext o M1
  unfold gK
  cases cellOf? M1 o with
  | none => rfl
  | some p =>
    dsimp only
    rw [if_pos (by rfl), el_bind]
    congr
    funext avs M2
    unfold mK
    cases cellOf? M2 o with
    | none => rfl
    | some p =>
      obtain ⟨c, xs⟩ := p
      dsimp only
      cases m xs avs M2 with
      | none => rfl
      | some t =>
        obtain ⟨d, ys, M3⟩ := t
        dsimp only
        cases cellOf? M3 o with
        | none => rfl
        | some p => rfl
theorem m_app {k : AV → Mem → Out β} {c : Nat} {xs : List D} {x : D} (e : M[c]? = some (some (.l xs))) (hl : xs.length < 1000000) (h : k (.d .non) (M.set c (some (.l (xs ++ [x])))) = res) : mK mAppend (.cell c) [.d x] M k = res := by
  have e1 : cellOf? M (.cell c) = some (c, xs) := by unfold cellOf?; dsimp only; rw [e]
  unfold mK
  rw [e1]
  have hs : xs.length < sizeLine := Nat.lt_of_lt_of_le hl (by decide)
  have e2 : mAppend xs [.d x] M = some (.non, xs ++ [x], M) := by
    unfold mAppend keepD
    dsimp only
    rw [if_pos hs]
  dsimp only
  rw [e2]
  dsimp only
  rw [e1]
  exact h
/-- the cell that was made last -/
theorem last_get {xs : List D} : (M ++ [some (MC.l xs)])[M.length]? = some (some (.l xs)) := by simp
theorem last_set {xs ys : List D} : (M ++ [some (MC.l xs)]).set M.length (some (.l ys)) = M ++ [some (.l ys)] := by simp
theorem m_appL {k : AV → Mem → Out β} {xs : List D} {x : D} (hl : xs.length < 1000000) (h : k (.d .non) (M ++ [some (.l (xs ++ [x]))]) = res) : mK mAppend (.cell M.length) [.d x] (M ++ [some (.l xs)]) k = res :=
  m_app last_get hl (by rw [last_set]; exact h)
theorem gk_L {xs : List D} {r : Out β} (h : r = res) : gK (cellOf? (M ++ [some (MC.l xs)]) (.cell M.length)).isSome r = res := gk_t (by unfold cellOf?; dsimp only; rw [last_get]; rfl) h
/-- the last item of a cell -/
theorem atI_neg1 {xs : List D} {x : D} : L2.atI (xs ++ [x]) (-1) = some x := by
  unfold L2.atI L2.ixN
  rw [if_neg (by decide), if_pos (by rw [List.length_append]; simp; omega)]
  show (xs ++ [x])[((-1 : Int) + ((xs ++ [x]).length : Nat)).toNat]? = some x
  have e : ((-1 : Int) + ((xs ++ [x]).length : Nat)).toNat = xs.length := by rw [List.length_append, List.length_singleton]; omega
  rw [e]
  simp
theorem idx_cell {c : Nat} {i : Int} {xs : List D} {x : D} (e : M[c]? = some (some (.l xs))) (e2 : L2.atI xs i = some x) : idx (.cell c) (.d (.int i)) M = .ok (.d x) M := by
  have h : lstOf M (.cell c) = some xs := by unfold lstOf; dsimp only; rw [e]
  unfold idx
  dsimp only
  rw [h]
  dsimp only
  rw [e2]
theorem idx_lst {i : Int} {xs : List D} {x : D} (e2 : L2.atI xs i = some x) : idx (.d (.lst xs)) (.d (.int i)) M = .ok (.d x) M := by
  unfold idx lstOf
  dsimp only
  rw [e2]
theorem idx_tup {i : Int} {xs : List D} {x : D} (e2 : L2.atI xs i = some x) : idx (.d (.tup xs)) (.d (.int i)) M = .ok (.d x) M := by
  unfold idx lstOf
  dsimp only
  rw [e2]
theorem atI_nat {α : Type} {xs : List α} {i : Nat} {x : α} (h : xs[i]? = some x) : L2.atI xs (i : Int) = some x := by
  have hi := (List.getElem?_eq_some_iff.mp h).1
  unfold L2.atI L2.ixN
  rw [if_pos (by omega), if_pos (by omega), Int.toNat_natCast]
  exact h
theorem atI_int {α : Type} {xs : List α} {i : Int} {x : α} (h0 : 0 ≤ i) (h : xs[i.toNat]? = some x) : L2.atI xs i = some x := by
  have e : i = (i.toNat : Int) := by omega
  rw [e]
  exact atI_nat h
end
section
variable {β : Type} {kx : Exc → Mem → Out β} {res : Out β} {env : Env} {M : Mem} {k : AV → Mem → Out β}
def pickK (tab : FT) (x : AV) (q : (List AV → Mem → Out AV) → Out β) : Out β := match x with
  | .d (.fn n) => optK (tab.lookup n) q
  | _ => .bad
theorem e_callV {tab : FT} {f : SE} {l : SL} (h : el (f env M) (fun x M1 => pickK tab x fun F => el (l env M1) (fun avs M2 => el (F avs M2) k kx) kx) kx = res) : el (sCallV tab f l env M) k kx = res := by
  rw [← h]
  unfold sCallV
  rw [el_bind]
  congr
  funext x M1
  cases x with
  | d y =>
    cases y with
    | fn n =>
      show el (match tab.lookup n with | some F => (l env M1).bind fun avs M2 => F avs M2 | none => .bad) k kx = optK (tab.lookup n) _
      cases tab.lookup n with
      | none => rfl
      | some F => exact el_bind _ _ _ _
    | _ => rfl
  | _ => rfl
theorem pick_fn {tab : FT} {n : Str} {F : List AV → Mem → Out AV} {q : (List AV → Mem → Out AV) → Out β} (e : tab.lookup n = some F) (h : q F = res) : pickK tab (.d (.fn n)) q = res := by
  unfold pickK optK
  dsimp only
  rw [e]
  exact h
theorem e_rev {f : SE} (h : el (f env M) (fun x M1 => el (rev2Op x M1) k kx) kx = res) : el (sRev f env M) k kx = res := by rw [← h]; exact el_bind _ _ _ _
theorem p_revT {xs : List D} (h : k (.d (.tup xs.reverse)) M = res) : el (rev2Op (.d (.tup xs)) M) k kx = res := h
theorem p_lenS {xs : List D} {v : AV} (e : lstOf M v = some xs) (h : k (.d (.int xs.length)) M = res) : el (lenOp [v] M) k kx = res := by
  unfold lenOp
  dsimp only
  rw [e]
  exact h
theorem i_itm {op : Mem → List AV → Option Itm} {l : SL} {k : Itm → Mem → Out β} (h : el (l env M) (fun x M1 => optK (op M1 x) fun it => k it M1) kx = res) : el (sItm op l env M) k kx = res := by
  rw [← h]
  unfold sItm
  rw [el_bind]
  congr
  funext x M1
  cases op M1 x <;> rfl
end
/-- the size of the integer in a slot: a measure -/
def intAt (env : Env) (i : Nat) : Nat := match env[i]? with
  | some (some (AV.d (D.int y))) => y.natAbs
  | _ => 0
/-! ### a walk that folds -/
theorem for_fold {S : Type} {body : SS} {tg : Tg} {I : S → Env → Mem → Prop} (f : S → D → S) : ∀ (items : List D) (step : ∀ d ∈ items, ∀ s env M, I s env M → ∃ e env' M', tg.bind d env = some e ∧ body e M = .ok (.next env') M' ∧ I (f s d) env' M') (s : S) (env : Env) (M : Mem), I s env M →
    ∃ env' M', forL body tg [] items env M = .ok (.next env') M' ∧ I (items.foldl f s) env' M'
  | [], _, s, env, M, h => ⟨env, M, rfl, h⟩
  | d :: r, step, s, env, M, h => by
    obtain ⟨e, env1, M1, e1, e2, h1⟩ := step d List.mem_cons_self s env M h
    obtain ⟨env2, M2, e3, h2⟩ := for_fold f r (fun d hd => step d (.tail _ hd)) (f s d) env1 M1 h1
    refine ⟨env2, M2, ?_, h2⟩
    rw [forL, if_pos (by rfl), e1]
    dsimp only
    rw [e2, Out.bind_ok]
    exact e3
theorem e_fold {β S : Type} {kx : Exc → Mem → Out β} {res : Out β} {k : Fl → Mem → Out β} {body : SS} {tg : Tg} {items : List D} {env : Env} {M : Mem} (I : S → Env → Mem → Prop) (f : S → D → S) (s : S) (h0 : I s env M)
    (step : ∀ d ∈ items, ∀ s env M, I s env M → ∃ e env' M', tg.bind d env = some e ∧ body e M = .ok (.next env') M' ∧ I (f s d) env' M') (h : ∀ env' M', I (items.foldl f s) env' M' → k (.next env') M' = res) : el (forL body tg [] items env M) k kx = res := by
  obtain ⟨env', M', e, q⟩ := for_fold f items step s env M h0
  rw [e]
  exact h env' M' q
theorem r_c {M : Mem} {xs : List D} : endK M.length (.ret (.cell M.length)) (M ++ [some (.l xs)]) = .ok (.fr xs) M := by
  show finRet M.length (.cell M.length) (M ++ [some (.l xs)]) = _
  unfold finRet
  dsimp only
  rw [if_neg (Nat.lt_irrefl _), last_get]
  simp
theorem atI_head {α : Type} {x : α} {xs : List α} : L2.atI (x :: xs) 0 = some x := atI_nat (i := 0) rfl
theorem cutG_tail {α : Type} {x : α} {xs : List α} : cutG (x :: xs) (some 1) none = xs := by
  unfold cutG
  have e : HT.sIx (x :: xs).length 0 (some 1) = 1 := by
    show (if (1 : Int) < 0 then ((1 : Int) + ((x :: xs).length : Int)).toNat else min (1 : Int).toNat (x :: xs).length) = 1
    have h1 : ¬ ((1 : Int) < 0) := by decide
    rw [if_neg h1, List.length_cons]
    show min 1 (xs.length + 1) = 1
    omega
  rw [e]
  show ((x :: xs).drop 1).take ((x :: xs).length - 1) = xs
  simp
def lastI (s : List Int) : Int := s.getLast?.getD 0
theorem atI_last {s : List Int} (h : s ≠ []) : L2.atI (s.map D.int) (-1) = some (.int (lastI s)) := by
  have e : s = s.dropLast ++ [s.getLast h] := (List.dropLast_concat_getLast h).symm
  unfold lastI
  rw [List.getLast?_eq_getLast h]
  show _ = some (D.int (s.getLast h))
  conv => lhs; rw [e]
  rw [List.map_append]
  exact atI_neg1
/-- the same, the place told -/
theorem for_foldI {S : Type} {body : SS} {tg : Tg} {I : Nat → S → Env → Mem → Prop} (f : S → D → S) : ∀ (items : List D) (n : Nat) (step : ∀ i d, items[i]? = some d → ∀ s env M, I (n + i) s env M → ∃ e env' M', tg.bind d env = some e ∧ body e M = .ok (.next env') M' ∧ I (n + i + 1) (f s d) env' M') (s : S) (env : Env) (M : Mem), I n s env M →
    ∃ env' M', forL body tg [] items env M = .ok (.next env') M' ∧ I (n + items.length) (items.foldl f s) env' M'
  | [], n, _, s, env, M, h => ⟨env, M, rfl, h⟩
  | d :: r, n, step, s, env, M, h => by
    obtain ⟨e, env1, M1, e1, e2, h1⟩ := step 0 d rfl s env M h
    obtain ⟨env2, M2, e3, h2⟩ := for_foldI f r (n + 1) (fun i d hd s env M h => by
      have z : n + 1 + i = n + (i + 1) := by omega
      rw [z] at h ⊢
      exact step (i + 1) d hd s env M h) (f s d) env1 M1 h1
    refine ⟨env2, M2, ?_, by rw [List.length_cons, show n + (r.length + 1) = n + 1 + r.length by omega]; exact h2⟩
    rw [forL, if_pos (by rfl), e1]
    dsimp only
    rw [e2, Out.bind_ok]
    exact e3
theorem e_foldI {β S : Type} {kx : Exc → Mem → Out β} {res : Out β} {k : Fl → Mem → Out β} {body : SS} {tg : Tg} {items : List D} {env : Env} {M : Mem} (I : Nat → S → Env → Mem → Prop) (f : S → D → S) (s : S) (h0 : I 0 s env M)
    (step : ∀ i d, items[i]? = some d → ∀ s env M, I i s env M → ∃ e env' M', tg.bind d env = some e ∧ body e M = .ok (.next env') M' ∧ I (i + 1) (f s d) env' M') (h : ∀ env' M', I items.length (items.foldl f s) env' M' → k (.next env') M' = res) : el (forL body tg [] items env M) k kx = res := by
  obtain ⟨env', M', e, q⟩ := for_foldI (I := I) f items 0 (fun i d hd s env M h => by rw [Nat.zero_add] at h ⊢; exact step i d hd s env M h) s env M h0
  rw [e]
  exact h env' M' (by rw [Nat.zero_add] at q; exact q)
/-! ### tuples of integers -/
abbrev ti (c : List Int) : D := .tup (c.map .int)
theorem idx_head {x : Int} {r : List Int} {M : Mem} : idx (.d (ti (x :: r))) (.d (.int 0)) M = .ok (.d (.int x)) M := idx_tup (xs := D.int x :: r.map D.int) atI_head
theorem idx_ti {c : List Int} {i : Nat} {x : Int} {M : Mem} (h : c[i]? = some x) : idx (.d (ti c)) (.d (.int (i : Int))) M = .ok (.d (.int x)) M := idx_tup (atI_nat (by rw [List.getElem?_map, h]; rfl))
theorem cut_tail {β : Type} {kx : Exc → Mem → Out β} {res : Out β} {k : AV → Mem → Out β} {x : Int} {r : List Int} {M : Mem} (h : k (.d (ti r)) M = res) : el (cutop (.d (ti (x :: r))) (some 1) none M) k kx = res := by
  refine cut_T ?_
  show k (.d (.tup (cutG (D.int x :: r.map D.int) (some 1) none))) M = res
  rw [cutG_tail]
  exact h
theorem foldl_map {S : Type} (f : S → D → S) (r : List Int) : ∀ s : S, (r.map D.int).foldl f s = r.foldl (fun s b => f s (.int b)) s := by
  induction r with
  | nil => intro s; rfl
  | cons b r ih => intro s; exact ih _
end Mp

namespace Mp
open PySem L2 PySem.Spec PyProof.Rows

/-! ## loops over cells, unrolled loops, sums of rows -/
theorem for_dep {body : SS} {tg : Tg} {deps : List (Nat × List D)} {I : Env → Mem → Prop} (hI : ∀ env M, I env M → depsOk M deps = true) : ∀ (items : List D) (step : ∀ d ∈ items, ∀ env M, I env M → ∃ e env' M', tg.bind d env = some e ∧ body e M = .ok (.next env') M' ∧ I env' M') (env : Env) (M : Mem), I env M →
    ∃ env' M', forL body tg deps items env M = .ok (.next env') M' ∧ I env' M'
  | [], _, env, M, h => ⟨env, M, by rw [forL, if_pos (hI _ _ h)], h⟩
  | d :: r, step, env, M, h => by
    obtain ⟨e, env1, M1, e1, e2, h1⟩ := step d List.mem_cons_self env M h
    obtain ⟨env2, M2, e3, h2⟩ := for_dep hI r (fun d hd => step d (.tail _ hd)) env1 M1 h1
    refine ⟨env2, M2, ?_, h2⟩
    rw [forL, if_pos (hI _ _ h), e1]
    dsimp only
    rw [e2, Out.bind_ok]
    exact e3
theorem e_loopD {β : Type} {kx : Exc → Mem → Out β} {res : Out β} {k : Fl → Mem → Out β} {body : SS} {tg : Tg} {items : List D} {deps : List (Nat × List D)} {env : Env} {M : Mem} (I : Env → Mem → Prop) (hI : ∀ env M, I env M → depsOk M deps = true) (h0 : I env M)
    (step : ∀ d ∈ items, ∀ env M, I env M → ∃ e env' M', tg.bind d env = some e ∧ body e M = .ok (.next env') M' ∧ I env' M') (h : ∀ env' M', I env' M' → k (.next env') M' = res) : el (forL body tg deps items env M) k kx = res := by
  obtain ⟨env', M', e, q⟩ := for_dep hI items step env M h0
  rw [e]
  exact h env' M' q
section
variable {β : Type} {kx : Exc → Mem → Out β} {res : Out β} {k : Fl → Mem → Out β} {body : SS} {tg : Tg} {items : List D} {env : Env} {M : Mem}
def forK (fl : Fl) (M : Mem) (kn : Env → Mem → Out β) (k : Fl → Mem → Out β) : Out β := match fl with
  | .next e => kn e M
  | .cont e => kn e M
  | .brk e => k (.next e) M
  | .ret v => k (.ret v) M
theorem fk_n {e : Env} {kn : Env → Mem → Out β} (h : kn e M = res) : forK (.next e) M kn k = res := h
theorem fk_c {e : Env} {kn : Env → Mem → Out β} (h : kn e M = res) : forK (.cont e) M kn k = res := h
theorem fk_b {e : Env} {kn : Env → Mem → Out β} (h : k (.next e) M = res) : forK (.brk e) M kn k = res := h
theorem fk_r {v : AV} {kn : Env → Mem → Out β} (h : k (.ret v) M = res) : forK (.ret v) M kn k = res := h
theorem f_nil (e : items = []) (h : k (.next env) M = res) : el (forL body tg [] items env M) k kx = res := by
  subst e
  rw [forL, if_pos (by rfl)]
  exact h
theorem f_cons {d : D} {r : List D} {e : Env} (ei : items = d :: r) (eb : tg.bind d env = some e) (h : el (body e M) (fun fl M1 => forK fl M1 (fun e' M2 => el (forL body tg [] r e' M2) k kx) k) kx = res) : el (forL body tg [] items env M) k kx = res := by
  subst ei
  rw [← h, forL, if_pos (by rfl), eb]
  dsimp only
  rw [el_bind]
  congr
  funext fl M1
  cases fl <;> rfl
theorem f_items {items' : List D} (e : items = items') (h : el (forL body tg [] items' env M) k kx = res) : el (forL body tg [] items env M) k kx = res := by rw [e]; exact h
theorem e_stmt {s t : SS} {env' : Env} {M' : Mem} (e : s env M = .ok (.next env') M') (h : el (t env' M') k kx = res) : el (sSeq2 s t env M) k kx = res := by
  refine e_seq ?_
  rw [e]
  exact h
end
section
variable {M : Mem}
theorem add_tup {xs ys : List D} (h : xs.length + ys.length ≤ 1000000) : binop .Add (opnd M (.d (.tup xs))) (opnd M (.d (.tup ys))) M = .ok (.d (.tup (xs ++ ys))) M := by
  have hs : xs.length + ys.length ≤ sizeLine := Nat.le_trans h (by decide)
  show guard (decide (xs.length + ys.length ≤ sizeLine)) (Out.ok (AV.d (.tup (xs ++ ys))) M) = _
  unfold guard
  rw [if_pos (decide_eq_true hs)]
theorem add_lf {xs ys : List D} (h : xs.length + ys.length ≤ 1000000) : binop .Add (opnd M (.d (.lst xs))) (opnd M (.fr ys)) M = .ok (.fr (xs ++ ys)) M := by
  have hs : xs.length + ys.length ≤ sizeLine := Nat.le_trans h (by decide)
  show guard (decide (xs.length + ys.length ≤ sizeLine)) (Out.ok (AV.fr (xs ++ ys)) M) = _
  unfold guard
  rw [if_pos (decide_eq_true hs)]
theorem add_cf {c : Nat} {xs ys : List D} (e : M[c]? = some (some (.l xs))) (h : xs.length + ys.length ≤ 1000000) : binop .Add (opnd M (.cell c)) (opnd M (.fr ys)) M = .ok (.fr (xs ++ ys)) M := by
  have e1 : opnd M (.cell c) = .d (.lst xs) := by
    unfold opnd lstOf
    dsimp only
    rw [e]
  rw [e1]
  exact add_lf h
theorem lst_tup {xs : List D} : listOp [.d (.tup xs)] M = .ok (.fr xs) M := rfl
end
theorem cutG_map {α β : Type} (f : α → β) (xs : List α) (i j : Option Int) : cutG (xs.map f) i j = (cutG xs i j).map f := by
  unfold cutG
  rw [List.length_map, ← List.map_drop, ← List.map_take]
theorem cutG_le {α : Type} (xs : List α) (i j : Option Int) : (cutG xs i j).length ≤ xs.length := by
  unfold cutG
  rw [List.length_take, List.length_drop]
  omega
section
variable {X : Cx} {E : WX} {elt tgE iter : Expr} {ifs : List Expr} {fi : SI} {t : Tg} {cond : SB} {fe : SE} {scope : Scope} {own : List (Str × Nat)} {pos : Pos}
theorem gs_asgLc {i : Nat} {x : Str} {m : Bool} {py spos : Pos} (hc : X.calm = true) (hN : X.N.Nodup) (hy : X.N[i]? = some x) (hyl : X.env.scope.names.lookup x = some .local)
    (hsw : swapsWith (.ListComp elt [⟨tgE, iter, ifs, 0⟩] scope pos) (some (.Name x py)) spos.line X.env = pure true) (hi : GI X E tgE iter fi) (ok : BlkOk X.N X.env.scope scope own)
    (hg : ∀ (s : Shared) (H : Hp) (C : Addr) (cl : List (Str × Addr)) (fp : List Addr), PG (X.blk s H scope (compEnvC scope cl C X.env) fp) tgE (rdT (gm X) t))
    (ht : ∀ (s : Shared) (H : Hp) (C : Addr) (cl : List (Str × Addr)) (fp : List Addr), PTs (X.blk s H scope (compEnvC scope cl C X.env) fp) ifs (rdB (gm X) cond FW))
    (he : ∀ (s : Shared) (H : Hp) (C : Addr) (cl : List (Str × Addr)) (fp : List Addr), GE (X.blk s H scope (compEnvC scope cl C X.env) fp) FW elt fe)
    (hs : ∀ x, foldedSetIterable iter X.env x = pure x) (hsl : ∀ j ∈ t.slots, j ∈ own.map (·.2)) : GS X E (.Assign [.Name x py] (.ListComp elt [⟨tgE, iter, ifs, 0⟩] scope pos) spos) (sAsg i m (sComp fi t cond fe (own.map (·.2)))) :=
  PS.imp (ps_setLc hc hN hy hyl hsw hi ok hg ht he hs) fun D σ H h => by
    have z : tAsg (rdE (gm X) (sComp fi t cond fe (own.map (·.2))) E) (gName i) D σ H := asg_read (m := m) D σ H h
    exact lc_read hsl σ H _ z
end
section
variable {β : Type} {kx : Exc → Mem → Out β} {res : Out β} {env : Env} {M : Mem}
theorem e_aug {k : Fl → Mem → Out β} {i : Nat} {op : Operator} {f : SE} {x : AV} (e : env[i]? = some (some x)) (h : el (f env M) (fun y M1 => el (inop op x y M1) (fun z M2 => k (.next (env.set i (some z))) M2) kx) kx = res) : el (sAug i op f env M) k kx = res := by
  rw [← h]
  unfold sAug
  rw [e]
  dsimp only
  rw [el_bind]
  congr
  funext y M1
  rw [el_bind]
  rfl
theorem p_iadd {k : AV → Mem → Out β} {i j : Int} (h : k (.d (.int (i + j))) M = res) : el (inop .Add (.d (.int i)) (.d (.int j)) M) k kx = res := h
theorem m_ext {k : AV → Mem → Out β} {c : Nat} {xs ys : List D} (e : M[c]? = some (some (.l xs))) (hl : xs.length + ys.length ≤ 1000000) (h : k (.d .non) (M.set c (some (.l (xs ++ ys)))) = res) : mK mExtend (.cell c) [.d (.lst ys)] M k = res := by
  have e1 : cellOf? M (.cell c) = some (c, xs) := by unfold cellOf?; dsimp only; rw [e]
  unfold mK
  rw [e1]
  have hs : xs.length + ys.length ≤ sizeLine := Nat.le_trans hl (by decide)
  have e2 : mExtend xs [.d (.lst ys)] M = some (.non, xs ++ ys, M) := by
    unfold mExtend lstOf
    dsimp only
    rw [if_pos hs]
  dsimp only
  rw [e2]
  dsimp only
  rw [e1]
  exact h
theorem m_extL {k : AV → Mem → Out β} {xs ys : List D} (hl : xs.length + ys.length ≤ 1000000) (h : k (.d .non) (M ++ [some (.l (xs ++ ys))]) = res) : mK mExtend (.cell M.length) [.d (.lst ys)] (M ++ [some (.l xs)]) k = res :=
  m_ext last_get hl (by rw [last_set]; exact h)
theorem mul_l1 {x : D} {j : Int} (h0 : 0 ≤ j) (h1 : j ≤ 1000000) : binop .Mult (opnd M (.fr [x])) (opnd M (.d (.int j))) M = .ok (.fr (List.replicate j.toNat x)) M := by
  have hs : ([x] : List D).length * j.toNat ≤ sizeLine := by
    rw [List.length_singleton, Nat.one_mul]
    exact Nat.le_trans (show j.toNat ≤ 1000000 by omega) (by decide)
  show guard (decide (-(2 ^ 63) ≤ j ∧ j < 2 ^ 63 ∧ ([x] : List D).length * j.toNat ≤ sizeLine)) (Out.ok (AV.fr (List.replicate j.toNat [x]).flatten) M) = _
  unfold guard
  rw [if_pos (decide_eq_true ⟨by omega, by omega, hs⟩)]
  have e : (List.replicate j.toNat [x]).flatten = List.replicate j.toNat x := by
    generalize j.toNat = n
    induction n with
    | zero => rfl
    | succ n ih => rw [List.replicate_succ, List.flatten_cons, ih]; rfl
  rw [e]
theorem mul_t1 {x : D} {j : Int} (h0 : -1000 ≤ j) (h1 : j ≤ 1000) : binop .Mult (opnd M (.d (.tup [x]))) (opnd M (.d (.int j))) M = .ok (.d (.tup (List.replicate j.toNat x))) M := by
  show guard (decide ([x] ≠ [] ∧ -1000 ≤ j ∧ j ≤ 1000 ∧ ([x] : List D).length ≤ 1000)) (Out.ok (AV.d (.tup (List.replicate j.toNat [x]).flatten)) M) = _
  unfold guard
  rw [if_pos (decide_eq_true ⟨by simp, by omega, by omega, by simp⟩)]
  have e : (List.replicate j.toNat [x]).flatten = List.replicate j.toNat x := by
    generalize j.toNat = n
    induction n with
    | zero => rfl
    | succ n ih => rw [List.replicate_succ, List.flatten_cons, ih]; rfl
  rw [e]
end
end Mp

namespace Mp
open PySem L2 PySem.Spec PyProof.Rows

/-! ## sorted(xs), xs a list of ints or of tuples of ints -/
theorem each_vals {bs : List (V × PyData)} : ∀ {us : List Value}, Vals (bs.map (·.1)) us → PySem.W.EachIs (fun v (b : V × PyData) => RelV b.1 v) us bs := by
  induction bs with
  | nil => intro us h; cases h; exact .nil
  | cons b bs ih =>
    intro us h
    cases h with
    | cons r t => exact .cons r (ih t)
theorem vals_each {bs : List (V × PyData)} : ∀ {us : List Value}, PySem.W.EachIs (fun v (b : V × PyData) => RelV b.1 v) us bs → Vals (bs.map (·.1)) us := by
  induction bs with
  | nil => intro us h; cases h; exact .nil
  | cons b bs ih =>
    intro us h
    cases h with
    | cons r t => exact .cons r (ih t)
theorem each_imp {α β : Type} {R S : α → β → Prop} : ∀ {us : List α} {bs : List β}, PySem.W.EachIs R us bs → (∀ u, ∀ b ∈ bs, R u b → S u b) → PySem.W.EachIs S us bs
  | _, _, .nil, _ => .nil
  | _, _, .cons r t, h => .cons (h _ _ List.mem_cons_self r) (each_imp t fun u b hb => h u b (.tail _ hb))
def rSortedDt (K : PySem.W.Frag) : List V → Hp → VK → Prop := fun vs H Q => ∃ (a : Addr) (bs : List (V × PyData)), vs = [V.ref a] ∧ SqL K H a (bs.map (·.1)) ∧ (∀ b ∈ bs, Dp K H b.1 b.2 ∧ b.2.depth ≤ 60) ∧ PySem.W.AllAlike (bs.map (·.2)) ∧ PySem.W.Sortable (bs.map (·.2)) ∧
  ∀ p : Addr, H p = none → Q (.ref p) (upd H p (.lst ((bs.mergeSort (PySem.W.dataLe false (·.2))).map (·.1))))
theorem cr_sortedDt {X : Cx} (hu : X.A.units + 64 < cLine) : CallR X (.builtin "sorted") (rSortedDt X.K) := by
  intro pins s σ H vs us Q I r h
  obtain ⟨a, bs, rfl, hs, hx, hal, hk, q⟩ := h
  obtain ⟨its, rv, hl, hz⟩ := I.list hs
  rw [Vals.ref1 r]
  have e := each_vals rv
  have er : PySem.W.EachIs (fun v (b : V × PyData) => ∃ as, Reads s.heap v b.2 as) its bs := each_imp e fun u b hb r => Dp.reads I b.2 b.1 u (hx b hb).1 r
  have hz' : bs.length ≤ sizeLine := by rw [List.length_map] at hz; exact hz
  refine PySem.W.sorted_data (enc := fun b : V × PyData => b.2) hl.isList e er hal hk hz' (fun b hb => ?_) fun out ho hE => ?_
  · have := (hx b hb).2
    show X.A.units + 2 + b.2.depth < cLine
    omega
  · obtain ⟨ep, he'⟩ := PyProof.Rows.sortedAll_at s.heap its out.toArray
    have hlen : ((bs.mergeSort (PySem.W.dataLe false (·.2))).map (·.1)).length ≤ sizeLine := by
      rw [List.length_map, List.length_mergeSort]
      exact hz'
    exact ⟨.ref _, upd H (s.heap.objs.size + 1) (.lst ((bs.mergeSort (PySem.W.dataLe false (·.2))).map (·.1))), I.laid (t' := s.toks) (fun _ _ => PyProof.Rows.sortedAll_old) (Nat.le_succ _) ⟨hlen, out, ep, vals_each hE, he'⟩, rfl, q _ (I.hok.fresh (Nat.le_succ _))⟩

def tupI? : D → Option (List Int)
  | .tup xs => ints? xs
  | _ => none
def tupsI? : List D → Option (List (List Int))
  | [] => some []
  | d :: r => match tupI? d, tupsI? r with
    | some a, some l => some (a :: l)
    | _, _ => none
theorem tupsI_ok : ∀ {ds : List D} {L : List (List Int)}, tupsI? ds = some L → ds = L.map ti
  | [], L, h => by cases h; rfl
  | d :: r, L, h => by
    unfold tupsI? at h
    cases e1 : tupI? d with
    | none => rw [e1] at h; cases h
    | some a =>
      cases e2 : tupsI? r with
      | none => rw [e1, e2] at h; cases h
      | some l =>
        rw [e1, e2] at h
        cases h
        rw [List.map_cons, ← tupsI_ok e2]
        congr 1
        cases d with
        | tup xs =>
          have e1 : ints? xs = some a := e1
          rw [ints_ok e1]
        | _ => cases e1
def leI (a b : List Int) : Bool := decide (a ≤ b)
def sorted2Op : List AV → Mem → Out AV
  | [a], M => match (lstOf M a).bind ints? with
    | some ns => .ok (.fr ((sortI ns).map D.int)) M
    | none => match (lstOf M a).bind tupsI? with
      | some L => if (L.all fun c => !c.isEmpty) = true then .ok (.fr ((L.mergeSort leI).map ti)) M else .bad
      | none => .bad
  | _, _ => .bad
theorem dataLe_ti {β : Type} (x : β → List Int) : PySem.W.dataLe false (fun b => PyData.tuple ((x b).map .int)) = fun p q => leI (x p) (x q) := PySem.W.dataLe_rows x
theorem py_ti (c : List Int) : (ti c).py = .tuple (c.map .int) := by
  have e : ∀ c : List Int, D.pys (c.map D.int) = c.map .int := by
    intro c
    induction c with
    | nil => rfl
    | cons a r ih =>
      show PyData.int a :: D.pys (r.map D.int) = _
      rw [ih]
      rfl
  show PyData.tuple (D.pys (c.map D.int)) = _
  rw [e]
theorem flat_ti (c : List Int) : (ti c).flat = true := by
  show D.flats (c.map D.int) = true
  induction c with
  | nil => rfl
  | cons a r ih => exact ih
theorem zip_rds {G : Gm} {B : Addr → Prop} {H : Hp} : ∀ {L : List (List Int)} {vs : List V}, RDs G B H (L.map ti) vs → ∃ zs : List (V × List Int), zs.map (·.1) = vs ∧ zs.map (·.2) = L ∧ ∀ z ∈ zs, RD G B H (ti z.2) z.1
  | [], _, h => by cases h; exact ⟨[], rfl, rfl, fun _ h => (nomatch h)⟩
  | c :: L, _, h => by
    cases h with
    | @cons _ _ v vs h1 h2 =>
      obtain ⟨zs, e1, e2, e3⟩ := zip_rds h2
      refine ⟨(v, c) :: zs, by rw [List.map_cons, e1], by rw [List.map_cons, e2], fun z hz => ?_⟩
      rcases List.mem_cons.mp hz with rfl | hz
      · exact h1
      · exact e3 z hz
theorem rds_zip {G : Gm} {B : Addr → Prop} {H : Hp} : ∀ {zs : List (V × List Int)}, (∀ z ∈ zs, RD G B H (ti z.2) z.1) → RDs G B H ((zs.map (·.2)).map ti) (zs.map (·.1))
  | [], _ => .nil
  | z :: zs, h => .cons (h z List.mem_cons_self) (rds_zip fun y hy => h y (.tail _ hy))
section
variable {G : Gm} {W Z B : Addr → Prop} {φ : List Addr} {H : Hp} {M : Mem} {Q : VK} {E : XK} {avs : List AV} {vs : List V}
theorem sorted2_run (R : Rel G W Z φ M H) (r : SRs G (Bar W Z) φ H avs vs) (h : Run G Z φ W H (sorted2Op avs M) Q E) : rSortedI G.K vs H Q ∨ rSortedDt G.K vs H Q := by
  unfold sorted2Op at h
  split at h
  · rename_i a
    obtain ⟨v, rfl, r1⟩ := r.one
    split at h
    · rename_i ns e
      left
      obtain ⟨p, rfl, h1⟩ := R.ints r1 e
      refine ⟨p, ns, rfl, h1, fun ms l hp hs hl => ?_⟩
      have e : ms = sortI ns := sorted_unique (hp.trans (sortI_perm ns).symm) hs (sortI_sorted ns)
      subst e
      exact Run.new R h (RDs.of_ints _) l hl
    · right
      split at h
      · rename_i L e
        split at h
        · rename_i hne
          obtain ⟨xs, e1, e2⟩ := Option.bind_eq_some_iff.mp e
          have e3 := tupsI_ok e2
          subst e3
          obtain ⟨p, us, rfl, hq, hr, _⟩ := R.lst r1 e1
          obtain ⟨zs, z1, z2, z3⟩ := zip_rds hr
          have hpy : (zs.map fun z : V × List Int => (z.1, PyData.tuple (z.2.map .int))).map (·.1) = us := by rw [List.map_map]; exact z1
          refine ⟨p, zs.map fun z => (z.1, .tuple (z.2.map .int)), rfl, by rw [hpy]; exact hq, fun b hb => ?_, ?_, ?_, fun l hl => ?_⟩
          · obtain ⟨z, hz, rfl⟩ := List.mem_map.mp hb
            refine ⟨?_, ?_⟩
            · have := RD.dp (z3 z hz) (flat_ti z.2)
              rw [py_ti] at this
              exact this
            · show PyData.depthAll (z.2.map .int) + 1 ≤ 60
              rw [PySem.W.depth_ints]
              decide
          · rw [List.map_map]
            refine PySem.W.AllAlike.of fun a b => ?_
            show PySem.W.alikeAll (a.2.map .int) (b.2.map .int) = true
            exact PySem.W.alike_ints _ _
          · left
            intro d hd
            rw [List.map_map] at hd
            obtain ⟨z, hz, rfl⟩ := List.mem_map.mp hd
            have hz2 : z.2 ∈ L := by rw [← z2]; exact List.mem_map.mpr ⟨z, hz, rfl⟩
            have := List.all_eq_true.mp hne z.2 hz2
            cases e : z.2 with
            | nil => rw [e] at this; cases this
            | cons x c => exact ⟨.int x, c.map .int, by show PyData.tuple (z.2.map .int) = _; rw [e]; rfl⟩
          · have em : ((zs.map fun z : V × List Int => (z.1, PyData.tuple (z.2.map .int))).mergeSort (PySem.W.dataLe false (·.2))).map (·.1) = (zs.mergeSort fun a b => leI a.2 b.2).map (·.1) := by
              rw [← List.map_mergeSort (r := fun a b : V × List Int => leI a.2 b.2) (fun a _ b _ => ?_), List.map_map]
              · rfl
              · show leI a.2 b.2 = PySem.W.dataLe false (fun z : V × List Int => PyData.tuple (z.2.map .int)) a b
                rw [dataLe_ti]
            rw [em]
            have el : (L.mergeSort leI).map ti = ((zs.mergeSort fun a b => leI a.2 b.2).map (·.2)).map ti := by
              rw [List.map_mergeSort (s := leI) (fun a _ b _ => rfl), z2]
            rw [el] at h
            exact Run.new R h (rds_zip fun z hz => z3 z (List.mem_mergeSort.mp hz)) l hl
        · exact h.elim
      · exact h.elim
  · exact h.elim
end
section
variable {X : Cx} {E : WX} {e : Expr} {es : List Expr} {l : SL} {pos p : Pos}
theorem gc_sorted2 (hu : X.A.units + 65 < cLine) (hc : X.calm = true) (hl : GL X E (e :: es) l) (he : starEach (e :: es) X.env = (false, eval e X.env) :: starEach es X.env) (hpl : (backTo pos (starEach es X.env)).any (·.1) = false) (hg : Gl X "sorted") (hm : X.mg "sorted" = none) : GE X E (.Call (.Name "sorted" p) (e :: es) [] pos) (sArgs sorted2Op l) :=
  ge_bi (fun h => pe_callB (cr_sortedI.or (cr_sortedDt (by omega))) hg hm boot_sorted h (he := he) (hpl := hpl)) hl fun W Z φ M H avs vs Q E R r h => sorted2_run R r h
end
section
variable {α β : Type} {kx : Exc → Mem → Out β} {res : Out β}
theorem g_el {r : Out α} {k : α → Mem → Out β} (h : el r k kx = res) : el r k kx = res := h
theorem g_fl {r : Out Fl} {k : Fl → Mem → Out β} (h : el r k kx = res) : el r k kx = res := h
theorem g_av {r : Out AV} {k : AV → Mem → Out β} (h : el r k kx = res) : el r k kx = res := h
theorem g_ls {r : Out (List AV)} {k : List AV → Mem → Out β} (h : el r k kx = res) : el r k kx = res := h
theorem g_bl {r : Out Bool} {k : Bool → Mem → Out β} (h : el r k kx = res) : el r k kx = res := h
theorem g_opt {o : Option α} {k : α → Out β} (h : optK o k = res) : optK o k = res := h
theorem g_cond {b : Bool} {r r' : Out β} (h : cond b r r' = res) : cond b r r' = res := h
theorem g_fk {fl : Fl} {M : Mem} {kn : Env → Mem → Out β} {k : Fl → Mem → Out β} (h : flK fl M kn k = res) : flK fl M kn k = res := h
theorem g_st {x : AV} {k : AV → Out β} (h : stK x k = res) : stK x k = res := h
theorem g_asg {i : Nat} {m : Bool} {x : AV} {env : Env} {M : Mem} {k : Fl → Mem → Out β} (h : asgK i m x env M k = res) : asgK i m x env M k = res := h
theorem g_asp {i : Nat} {m : Bool} {x : AV} {env : Env} {M : Mem} {k : Env → Mem → Out β} (h : asgP i m x env M k = res) : asgP i m x env M k = res := h
theorem g_bin {op : Operator} {x y : AV} {M : Mem} {k : AV → Mem → Out β} (h : el (binop op x y M) k kx = res) : el (binop op x y M) k kx = res := h
theorem g_cmp {op : CmpOp} {x y : AV} {M : Mem} {k : AV → Mem → Out β} (h : el (cmpop op x y M) k kx = res) : el (cmpop op x y M) k kx = res := h
end
end Mp

namespace Mp
open PySem L2 PySem.Spec PyProof.Rows

/-! ## laws whose code raises Malformed alone -/
def ctM1 : Str → Str → Option Bool := fun e h => if e = "Malformed" then (if h = "Malformed" then some true else none) else none
structure ErrsM (K : PySem.W.Frag) (mg : Str → Option Value) (CM : Addr) : Prop where
  gM : mg "Malformed" = some (.ref CM)
  xM : PySem.W.excIn K CM [.type "ValueError", .type "Exception", .type "BaseException", .type "object"] "ValueError.__new__" = true
  kM : PySem.W.keepIn K (.ref CM) = true
  bM : PySem.W.subIn K (.ref CM) (.type "BaseException") = some true
  tM : PySem.W.typeIn K (.ref CM) = some (.type "type")
  iM : PySem.W.isClsIn K CM = true
  sMM : PySem.W.subIn K (.ref CM) (.ref CM) = some true
section
variable {X : Cx} {E : WX} {CM : Addr} {j k : Nat} {m : Str} {p p2 pos pos2 : Pos}
theorem ErrsM.ctM (T : ErrsM X.K X.mg CM) : CtOk X ctM1 "Malformed" (.ref CM) := fun ec b h C hC => by
  unfold ctM1 at h
  split at h
  · rename_i e
    subst e
    rw [if_pos rfl] at h
    cases h
    have := T.gM.symm.trans hC
    cases this
    exact exm_of T.bM T.iM T.tM T.sMM
  · cases h
theorem gs_rMM (T : ErrsM X.K X.mg CM) (hc : X.calm = true) (tk : Takes X E) (hg : Gl X "Malformed") : GS X E (.Raise (some (.Call (.Name "Malformed" p) [.Constant (.str m) j p2] [] pos)) none pos2) (sRaise "Malformed" []) :=
  gs_raiseM hc tk T.xM T.gM T.kM (raises_own T.bM T.tM) hg (by decide)
end
/-! ## lists that are popped; two cells that were made last -/
section
variable {β : Type} {kx : Exc → Mem → Out β} {res : Out β} {env : Env} {M : Mem}
theorem m_pop {k : AV → Mem → Out β} {c : Nat} {xs : List D} {x : D} (e : M[c]? = some (some (.l (xs ++ [x])))) (h : k (.d x) (M.set c (some (.l xs))) = res) : mK mPop (.cell c) [] M k = res := by
  have e1 : cellOf? M (.cell c) = some (c, xs ++ [x]) := by unfold cellOf?; dsimp only; rw [e]
  unfold mK
  rw [e1]
  have e2 : mPop (xs ++ [x]) [] M = some (x, xs, M) := by
    unfold mPop
    simp
  dsimp only
  rw [e2]
  dsimp only
  rw [e1]
  exact h
end
abbrev M2 (M : Mem) (F S : List D) : Mem := M ++ [some (.l F), some (.l S)]
section
variable {M : Mem} {F S T : List D}
theorem m2_0 : (M2 M F S)[M.length]? = some (some (.l F)) := by simp
theorem m2_1 : (M2 M F S)[M.length + 1]? = some (some (.l S)) := by simp
theorem m2_s0 : (M2 M F S).set M.length (some (.l T)) = M2 M T S := by simp
theorem m2_s1 : (M2 M F S).set (M.length + 1) (some (.l T)) = M2 M F T := by simp [List.set_append_right]
variable {β : Type} {res : Out β} {k : AV → Mem → Out β} {x : D}
theorem m2_app0 (hl : F.length < 1000000) (h : k (.d .non) (M2 M (F ++ [x]) S) = res) : mK mAppend (.cell M.length) [.d x] (M2 M F S) k = res :=
  m_app m2_0 hl (by rw [m2_s0]; exact h)
theorem m2_app1 (hl : S.length < 1000000) (h : k (.d .non) (M2 M F (S ++ [x])) = res) : mK mAppend (.cell (M.length + 1)) [.d x] (M2 M F S) k = res :=
  m_app m2_1 hl (by rw [m2_s1]; exact h)
theorem m2_pop1 (h : k (.d x) (M2 M F S) = res) : mK mPop (.cell (M.length + 1)) [] (M2 M F (S ++ [x])) k = res :=
  m_pop m2_1 (by rw [m2_s1]; exact h)
theorem m2_gk0 : (cellOf? (M2 M F S) (.cell M.length)).isSome = true := by unfold cellOf?; dsimp only; rw [m2_0]; rfl
theorem m2_gk1 : (cellOf? (M2 M F S) (.cell (M.length + 1))).isSome = true := by unfold cellOf?; dsimp only; rw [m2_1]; rfl
theorem m2_len1 : lenOp [.cell (M.length + 1)] (M2 M F S) = .ok (.d (.int S.length)) (M2 M F S) := by
  unfold lenOp
  simp [lstOf]
theorem m2_new : M ++ [some (MC.l F)] ++ [some (MC.l S)] = M2 M F S := by simp
theorem m2_nl : (M ++ [some (MC.l F)]).length = M.length + 1 := by simp
end
end Mp

namespace Mp
open PySem L2 PySem.Spec PyProof.Rows

/-! ## dicts whose keys are tuples of ints, or ints: cells of their own -/
section
variable {G : Gm} {W Z : Addr → Prop} {φ : List Addr} {H : Hp} {M : Mem}
/-- a new object becomes a cell -/
theorem Rel.newCell (R : Rel G W Z φ M H) {p : Addr} {o : HO} {c : MC} (hp : H p = none) (hc : CellR G (Bar (add1 W p) Z) (upd H p o) p c) :
    Rel G (add1 W p) Z (φ ++ [p]) (M ++ [some c]) (upd H p o) ∧ Ext W H (add1 W p) (upd H p o) := by
  have R2 := R.laid (o := o) hp
  have x0 := Ext.laid R (o := o) hp
  have nb : ¬ Bar W Z p := fun z => z.elim (fun z => R.wt p z hp) fun z => R.zt p z hp
  have hnp : ∀ i : Nat, φ[i]? ≠ some p := fun i e => (R2.sep i p e).2 (.inr rfl)
  have hb : ∀ a, Bar (add1 W p) Z a → Bar W (add1 Z p) a := fun a z => by
    rcases z with (z | z) | z
    · exact .inl z
    · exact .inr (.inr z)
    · exact .inr (.inl z)
  refine ⟨⟨by simp [R.len], ?_, fun a z => z.elim (R2.wt a) fun z => by subst z; rw [upd_same]; simp, fun a z => R2.zt a (.inl z), fun i q e => ?_, fun i q c e1 e2 => ?_⟩, fun a u e n => ⟨(x0.keep a u e n).1, fun z => z.elim n fun z => by subst z; rw [hp] at e; cases e⟩, x0.live⟩
  · rw [List.nodup_append]
    refine ⟨R.nd, by simp, fun a ha b hb e => ?_⟩
    obtain ⟨i, hi⟩ := List.getElem?_of_mem ha
    simp at hb
    subst hb; subst e
    exact hnp i hi
  · by_cases hi : i < φ.length
    · rw [List.getElem?_append_left hi] at e
      exact ⟨(R2.sep i q e).1, fun z => (R2.sep i q e).2 (.inl z)⟩
    · rw [List.getElem?_append_right (by omega)] at e
      have hq : q = p := by
        cases h : i - φ.length with
        | zero => rw [h] at e; simpa using e.symm
        | succ k => rw [h] at e; simp at e
      subst hq
      exact ⟨by rw [upd_same]; simp, fun z => nb (.inr z)⟩
  · by_cases hi : i < φ.length
    · rw [List.getElem?_append_left hi] at e1
      rw [List.getElem?_append_left (by rw [← R.len]; exact hi)] at e2
      obtain ⟨w, r⟩ := R2.cell i q c e1 e2
      exact ⟨.inl w, r.ext (Ext.less hb) rfl⟩
    · rw [List.getElem?_append_right (by omega)] at e1
      rw [List.getElem?_append_right (by rw [← R.len]; omega), ← R.len] at e2
      cases h : i - φ.length with
      | zero =>
        rw [h] at e1 e2
        simp at e1 e2
        subst e1; subst e2
        exact ⟨.inr rfl, hc⟩
      | succ k => rw [h] at e1; simp at e1
/-- a cell's object is changed -/
theorem Rel.putCell (R : Rel G W Z φ M H) {i : Nat} {p : Addr} {c c2 : MC} {o : HO} (e : φ[i]? = some p) (e2 : M[i]? = some (some c)) (hc : Ext W H W (upd H p o) → CellR G (Bar W Z) (upd H p o) p c2) :
    Rel G W Z φ (M.set i (some c2)) (upd H p o) ∧ Ext W H W (upd H p o) := by
  obtain ⟨wp, _⟩ := R.cell i p c e e2
  have lv : ∀ a, H a ≠ none → upd H p o a ≠ none := fun a h => by
    by_cases z : a = p
    · rw [z, upd_same]; simp
    · rw [upd_ne z]; exact h
  have x : Ext W H W (upd H p o) := ⟨fun a u h n => ⟨by rw [upd_ne fun z => n (by rw [z]; exact wp)]; exact h, n⟩, lv⟩
  have hi : i < M.length := (List.getElem?_eq_some_iff.mp e2).1
  refine ⟨⟨by rw [List.length_set]; exact R.len, R.nd, fun a w => lv a (R.wt a w), fun a z => lv a (R.zt a z), fun j q e3 => ⟨lv q (R.sep j q e3).1, (R.sep j q e3).2⟩, fun j q c' e3 e4 => ?_⟩, x⟩
  by_cases hj : j = i
  · subst hj
    rw [List.getElem?_set_self hi] at e4
    cases e4
    rw [e] at e3; cases e3
    exact ⟨wp, hc x⟩
  · rw [List.getElem?_set_ne (Ne.symm hj)] at e4
    obtain ⟨w, r⟩ := R.cell j q c' e3 e4
    have hq : q ≠ p := fun z => by
      subst z
      obtain ⟨l1, g1⟩ := List.getElem?_eq_some_iff.mp e3
      obtain ⟨l2, g2⟩ := List.getElem?_eq_some_iff.mp e
      exact hj ((List.getElem_inj R.nd).mp (g1.trans g2.symm))
    exact ⟨w, r.ext x.bar (upd_ne hq)⟩
end
/-! ### a dict is made -/
def sNewD (i : Nat) (c : MC) : SS := fun env M => .ok (.next (env.set i (some (.cell M.length)))) (M ++ [some c])
section
variable {X : Cx} {E : WX} {a b o e v : Expr} {f g fo fi fv : SE} {pos p2 tpos : Pos}
theorem gs_newT {i : Nat} {x : Str} {pos' : Pos} (hN : X.N.Nodup) (hi : X.N[i]? = some x) (hx : Loc X.env.scope x) (hs : swapsWith (.Dict [] [] p2) (some (.Name x pos')) pos.line X.env = pure false) (hf : X.fn x = true ∨ X.env.scope.names.lookup x = some .local) :
    GS X E (.Assign [.Name x pos'] (.Dict [] [] p2) pos) (sNewD i (.t [])) :=
  PS.imp (ps_set hN hi hx pe_dnewT hs hf) fun D σ H ⟨W, Z, φ, env, M, R, Er, h⟩ => fun p hp => by
    obtain ⟨R2, x⟩ := R.newCell (o := .dT []) (c := .t []) hp ⟨[], upd_same, .nil⟩
    refine h (add1 W p) [p] _ _ ⟨R2, x, fun q hq => by simp at hq; subst hq; exact hp⟩ ?_ (by simp)
    exact ((Er.ext x.bar).app [p]).set (av := .cell M.length) ⟨p, by rw [← R.len]; simp, rfl⟩ i
theorem gs_newK {i : Nat} {x : Str} {pos' : Pos} (hN : X.N.Nodup) (hi : X.N[i]? = some x) (hx : Loc X.env.scope x) (hs : swapsWith (.Dict [] [] p2) (some (.Name x pos')) pos.line X.env = pure false) (hf : X.fn x = true ∨ X.env.scope.names.lookup x = some .local) :
    GS X E (.Assign [.Name x pos'] (.Dict [] [] p2) pos) (sNewD i (.k [])) :=
  PS.imp (ps_set hN hi hx pe_dnewK hs hf) fun D σ H ⟨W, Z, φ, env, M, R, Er, h⟩ => fun p hp => by
    obtain ⟨R2, x⟩ := R.newCell (o := .dK []) (c := .k []) hp ⟨[], upd_same, .nil⟩
    refine h (add1 W p) [p] _ _ ⟨R2, x, fun q hq => by simp at hq; subst hq; exact hp⟩ ?_ (by simp)
    exact ((Er.ext x.bar).app [p]).set (av := .cell M.length) ⟨p, by rw [← R.len]; simp, rfl⟩ i
end
/-! ### key in dict -/
def ksOf : D → Option (List Int)
  | .tup xs => if ktOn = true then none else ints? xs
  | _ => none
def hasK {κ : Type} [DecidableEq κ] (kvs : List (κ × D)) (k : κ) : Bool := kvs.any fun e => decide (e.1 = k)
def dIn (x y : AV) (M : Mem) : Option Bool := match x, y with
  | .d d, .cell c => match M[c]? with
    | some (some (.t kvs)) => (ksOf d).map (hasK kvs)
    | some (some (.k kvs)) => match d with
      | .int i => some (hasK kvs i)
      | _ => none
    | _ => none
  | _, _ => none
def inDOp (neg : Bool) (x y : AV) (M : Mem) : Out AV := match dIn x y M with
  | some b => .ok (.d (.bl (neg != b))) M
  | none => .bad
def sInD (neg : Bool) (f g : SE) : SE := sTwo (inDOp neg) f g
theorem inl_inj : ∀ {a b : List Int}, a.map (Sum.inl : Int → Key) = b.map Sum.inl → a = b
  | [], [], _ => rfl
  | [], _ :: _, h => by cases h
  | _ :: _, [], h => by cases h
  | x :: a, y :: b, h => by
    rw [List.map_cons, List.map_cons, List.cons.injEq, Sum.inl.injEq] at h
    rw [h.1, inl_inj h.2]
theorem any_zip {κ κ' : Type} [DecidableEq κ] [DecidableEq κ'] {fk : κ → κ'} (hf : ∀ {a b}, fk a = fk b → a = b) (k : κ) : ∀ (kvs : List (κ × D)) (us : List V), kvs.length = us.length → ((List.zip (kvs.map fun e => fk e.1) us).any fun kv => decide (kv.1 = fk k)) = hasK kvs k
  | [], _, _ => rfl
  | e :: kvs, [], h => by cases h
  | e :: kvs, u :: us, h => by
    have ih := any_zip hf k kvs us (by simpa using h)
    unfold hasK at ih ⊢
    rw [List.map_cons, List.zip_cons_cons, List.any_cons, List.any_cons, ih]
    by_cases h1 : e.1 = k
    · rw [decide_eq_true h1, decide_eq_true (congrArg fk h1)]
    · rw [decide_eq_false h1, decide_eq_false fun z => h1 (hf z)]
/-- what a key and a dict's cell tell -/
theorem dget_of {G : Gm} {W Z : Addr → Prop} {φ : List Addr} {H : Hp} {M : Mem} {x y : AV} {v u : V} {b : Bool} (R : Rel G W Z φ M H) (r1 : SR G (Bar W Z) φ H x v) (r2 : SR G (Bar W Z) φ H y u) (h : dIn x y M = some b) : ∃ a o, u = .ref a ∧ DGet H a v o ∧ o.isSome = b := by
  unfold dIn at h
  split at h
  · rename_i d c
    obtain ⟨p, ep, rfl⟩ := r2
    split at h
    · rename_i kvs em
      obtain ⟨_, us, hp, ru⟩ := R.cell c p _ ep em
      obtain ⟨ks, hk, rfl⟩ := Option.map_eq_some_iff.mp h
      cases d with
      | tup xs =>
        have hk : (if ktOn = true then none else ints? xs) = some ks := hk
        have kt : ¬ ktOn = true := fun z => by rw [if_pos z] at hk; cases hk
        rw [if_neg kt] at hk
        have e1 := ints_ok hk
        subst e1
        cases r1 with
        | @tup a vs _ h1 h2 =>
          have h1 := h1.resolve_right fun z => kt z.1
          have hv := h2.ints
          subst hv
          refine ⟨p, _, rfl, DGet.t (k := ks.map Sum.inl) hp (by rw [List.map_map]; exact h1.1), ?_⟩
          rw [← valV_any, any_zip inl_inj ks kvs us (by have := ru.length; simpa using this)]
      | _ => cases hk
    · rename_i kvs em
      obtain ⟨_, us, hp, ru⟩ := R.cell c p _ ep em
      split at h
      · rename_i i
        cases h
        cases r1
        refine ⟨p, _, rfl, DGet.k (k := Sum.inl i) hp, ?_⟩
        rw [← valV_any]
        exact any_zip (fk := (Sum.inl : Int → Key)) (fun z => by injection z) i kvs us (by have := ru.length; simpa using this)
      · cases h
    · cases h
  · cases h
section
variable {X : Cx} {E : WX} {a b o i v : Expr} {f g fo fi fv : SE} {pos pos' : Pos}
theorem ge_inD (hu : X.A.units + 65 < cLine) (hm : behindInMarks .In b = false) (ha : GE X E a f) (hb : GE X E b g) : GE X E (.Compare a [.In] [b] pos) (sInD false f g) :=
  ge_two (r := fun y x H Q => ∃ a o, x = .ref a ∧ DGet H a y o ∧ Q (.bl o.isSome) H) (fun ha hb => pe_cmp (pc_din (by omega) ha hb) hm) ha hb fun W Z φ M H x y v u Q E R r1 r2 h => by
    unfold inDOp at h
    split at h
    · rename_i bb e
      obtain ⟨p, ov, rfl, hg, rfl⟩ := dget_of R r1 r2 e
      refine ⟨p, ov, rfl, hg, ?_⟩
      have := Run.ok R h (v := .bl (false != ov.isSome)) (.bl _) (fun _ z => by cases z)
      simpa using this
    · exact h.elim
theorem ge_notInD (hu : X.A.units + 65 < cLine) (hm : behindInMarks .NotIn b = false) (ha : GE X E a f) (hb : GE X E b g) : GE X E (.Compare a [.NotIn] [b] pos) (sInD true f g) :=
  ge_two (r := fun y x H Q => ∃ a o, x = .ref a ∧ DGet H a y o ∧ Q (.bl (!o.isSome)) H) (fun ha hb => pe_cmp (pc_dnotin (by omega) ha hb) hm) ha hb fun W Z φ M H x y v u Q E R r1 r2 h => by
    unfold inDOp at h
    split at h
    · rename_i bb e
      obtain ⟨p, ov, rfl, hg, rfl⟩ := dget_of R r1 r2 e
      refine ⟨p, ov, rfl, hg, ?_⟩
      have := Run.ok R h (v := .bl (true != ov.isSome)) (.bl _) (fun _ z => by cases z)
      simpa using this
    · exact h.elim
end
/-! ### d[k] = v -/
def putL {κ : Type} [DecidableEq κ] (kvs : List (κ × D)) (k : κ) (v : D) : List (κ × D) := if hasK kvs k = true then kvs.map (fun e => if e.1 = k then (e.1, v) else e) else kvs ++ [(k, v)]
def dPut (d : D) (y x : AV) (M : Mem) : Option Mem := match y, x with
  | .cell c, .d kd => match M[c]? with
    | some (some (.t kvs)) => match ksOf kd with
      | some k => if kvs.length < sizeLine then some (M.set c (some (.t (putL kvs k d)))) else none
      | none => none
    | some (some (.k kvs)) => match kd with
      | .int i => if kvs.length < sizeLine then some (M.set c (some (.k (putL kvs i d)))) else none
      | _ => none
    | _ => none
  | _, _ => none
def sPutD (fo fi fv : SE) : SS := fun env M => (fv env M).bind fun v M1 => (fo env M1).bind fun o M2 => (fi env M2).bind fun i M3 => match v with
  | .d d => match dPut d o i M3 with
    | some M4 => .ok (.next env) M4
    | none => .bad
  | _ => .bad
theorem map_zip {κ κ' : Type} [DecidableEq κ] [DecidableEq κ'] {fk : κ → κ'} (hf : ∀ {a b}, fk a = fk b → a = b) {G : Gm} {B : Addr → Prop} {H : Hp} {d : D} {v : V} (rd : RD G B H d v) (k : κ) : ∀ (kvs : List (κ × D)) (us : List V), RDs G B H (kvs.map (·.2)) us →
    ∃ us', (List.zip (kvs.map fun e => fk e.1) us).map (fun kv => if kv.1 = fk k then (kv.1, v) else kv) = List.zip ((kvs.map fun e => if e.1 = k then (e.1, d) else e).map fun e => fk e.1) us' ∧ RDs G B H ((kvs.map fun e => if e.1 = k then (e.1, d) else e).map (·.2)) us'
  | [], us, h => by cases h; exact ⟨[], rfl, .nil⟩
  | e :: kvs, us, h => by
    cases h with
    | @cons _ _ u us h1 h2 =>
      obtain ⟨us', e1, e2⟩ := map_zip hf rd k kvs us h2
      by_cases hk : e.1 = k
      · refine ⟨v :: us', ?_, ?_⟩
        · rw [List.map_cons, List.zip_cons_cons, List.map_cons, e1, List.map_cons, List.map_cons, if_pos hk, if_pos (congrArg fk hk)]
          rfl
        · rw [List.map_cons, List.map_cons, if_pos hk]
          exact .cons rd e2
      · refine ⟨u :: us', ?_, ?_⟩
        · rw [List.map_cons, List.zip_cons_cons, List.map_cons, e1, List.map_cons, List.map_cons, if_neg hk, if_neg fun z => hk (hf z)]
          rfl
        · rw [List.map_cons, List.map_cons, if_neg hk]
          exact .cons h1 e2
theorem put_zip {κ κ' : Type} [DecidableEq κ] [DecidableEq κ'] {fk : κ → κ'} (hf : ∀ {a b}, fk a = fk b → a = b) {G : Gm} {B : Addr → Prop} {H : Hp} {d : D} {v : V} (rd : RD G B H d v) (k : κ) (kvs : List (κ × D)) (us : List V) (h : RDs G B H (kvs.map (·.2)) us) :
    ∃ us', putK (List.zip (kvs.map fun e => fk e.1) us) (fk k) v = List.zip ((putL kvs k d).map fun e => fk e.1) us' ∧ RDs G B H ((putL kvs k d).map (·.2)) us' := by
  have hl : kvs.length = us.length := by have := h.length; simpa using this
  unfold putK putL
  rw [any_zip hf k kvs us hl]
  by_cases hk : hasK kvs k = true
  · rw [if_pos hk, if_pos hk]
    exact map_zip hf rd k kvs us h
  · rw [if_neg hk, if_neg hk]
    refine ⟨us ++ [v], ?_, ?_⟩
    · rw [List.map_append, List.zip_append (by rw [List.length_map]; exact hl)]
      rfl
    · rw [List.map_append]
      exact h.append (.cons rd .nil)
theorem dput_of {G : Gm} {W Z : Addr → Prop} {φ : List Addr} {H : Hp} {M M4 : Mem} {d : D} {o i : AV} {v u y : V} (R : Rel G W Z φ M H) (rd : RD G (Bar W Z) H d v) (r1 : SR G (Bar W Z) φ H o u) (r2 : SR G (Bar W Z) φ H i y) (h : dPut d o i M = some M4) :
    ∃ a H4, u = .ref a ∧ DPut H a y v H4 ∧ Rel G W Z φ M4 H4 ∧ Ext W H W H4 := by
  unfold dPut at h
  split at h
  · rename_i c kd
    obtain ⟨p, ep, rfl⟩ := r1
    split at h
    · rename_i kvs em
      split at h
      · rename_i ks hk
        split at h
        · rename_i hl
          cases h
          obtain ⟨_, us, hp, ru⟩ := R.cell c p _ ep em
          have hlu : kvs.length = us.length := by have := ru.length; simpa using this
          cases kd with
          | tup xs =>
            have hk : (if ktOn = true then none else ints? xs) = some ks := hk
            have kt : ¬ ktOn = true := fun z => by rw [if_pos z] at hk; cases hk
            rw [if_neg kt] at hk
            have e1 := ints_ok hk
            subst e1
            cases r2 with
            | @tup a vs _ h1 h2 =>
              have h1 := h1.resolve_right fun z => kt z.1
              have hv := h2.ints
              subst hv
              obtain ⟨us', e2, r3⟩ := put_zip (fk := fun l : List Int => l.map (Sum.inl : Int → Key)) inl_inj rd ks kvs us ru
              obtain ⟨R2, x⟩ := R.putCell (o := .dT (putK (List.zip (kvs.map fun e => e.1.map Sum.inl) us) (ks.map Sum.inl) v)) (c2 := .t (putL kvs ks d)) ep em fun x => ⟨us', by rw [upd_same]; exact congrArg (fun z => some (HO.dT z)) e2, r3.ext x.bar⟩
              refine ⟨p, _, rfl, DPut.t (k := ks.map Sum.inl) hp (by rw [List.map_map]; exact h1.1) ?_, R2, x⟩
              rw [List.length_zip, List.length_map]
              omega
          | _ => cases hk
        · cases h
      · cases h
    · rename_i kvs em
      split at h
      · rename_i k
        split at h
        · rename_i hl
          cases h
          obtain ⟨_, us, hp, ru⟩ := R.cell c p _ ep em
          have hlu : kvs.length = us.length := by have := ru.length; simpa using this
          cases r2
          obtain ⟨us', e2, r3⟩ := put_zip (fk := (Sum.inl : Int → Key)) (fun z => by injection z) rd k kvs us ru
          obtain ⟨R2, x⟩ := R.putCell (o := .dK (putK (List.zip (kvs.map fun e => Sum.inl e.1) us) (Sum.inl k) v)) (c2 := .k (putL kvs k d)) ep em fun x => ⟨us', by rw [upd_same]; exact congrArg (fun z => some (HO.dK z)) e2, r3.ext x.bar⟩
          refine ⟨p, _, rfl, DPut.k (k := Sum.inl k) hp ?_, R2, x⟩
          rw [List.length_zip, List.length_map]
          omega
        · cases h
      · cases h
    · cases h
  · cases h
section
variable {X : Cx} {E : WX} {o i v : Expr} {fo fi fv : SE} {pos tpos : Pos}
theorem gs_putD (hu : X.A.units + 65 < cLine) (hv : GE X E v fv) (ho : GE X E o fo) (hi : GE X E i fi) (hs : swapsWith v (some (.Subscript o i tpos)) pos.line X.env = pure false) : GS X E (.Assign [.Subscript o i tpos] v pos) (sPutD fo fi fv) :=
  PS.imp (ps_dput (by omega) ho hi hv hs) fun De σ H ⟨W, Z, φ, env, M, R, Er, h⟩ => ⟨W, Z, φ, env, M, R, Er,
    (RunS.bind h).imp2 (fun x H1 ⟨W1, M1, x', _, R1, x1, r1, h2⟩ => ⟨W1, Z, φ, env, M1, R1, Er.ext x1.bar,
      (RunS.bind h2).imp2 (fun y H2 ⟨W2, M2, y', _, R2, x2, r2, h3⟩ => ⟨W2, Z, φ, env, M2, R2, (Er.ext x1.bar).ext x2.bar,
        (RunS.bind h3).imp2 (fun z H3 ⟨W3, M3, z', _, R3, x3, r3, h4⟩ => by
          cases x' with
          | d d =>
            dsimp only at h4
            cases ep : dPut d y' z' M3 with
            | none => rw [ep] at h4; exact h4.elim
            | some M4 =>
              rw [ep] at h4
              have r1' : RD _ _ H1 d x := r1
              obtain ⟨a, H4, rfl, hput, R4, x4⟩ := dput_of R3 ((r1'.ext x2.bar).ext x3.bar) (r2.sr.ext x3.bar) r3.sr ep
              refine ⟨a, H4, rfl, hput, ?_⟩
              exact h4 W3 [] H4 σ ⟨by simpa using R4, x4, fun _ z => by cases z⟩ (by simpa using (((Er.ext x1.bar).ext x2.bar).ext x3.bar).ext x4.bar) rfl
          | _ => exact h4.elim) (fun c d H' q => q σ rfl)⟩) (fun c d H' q => q σ rfl)⟩) (fun c d H' q => q σ rfl)⟩
end
section
variable {X : Cx} {E : WX} {a b : Expr} {f g : SE} {pos : Pos}
theorem gb_inD (hu : X.A.units + 65 < cLine) (hm : behindInMarks .In b = false) (ha : GE X E a f) (hb : GE X E b g) : GB X E (.Compare a [.In] [b] pos) (sB (sInD false f g)) :=
  PT.imp (pt_cmp (pc_din (by omega) ha hb) hm) fun σ H Q ⟨W, Z, φ, env, M, R, Er, h⟩ => by
    have h' : RunB (gm X) Z φ W H ((f env M).bind fun x M1 => (g env M1).bind fun y M2 => (inDOp false x y M2).bind fun z M3 => match truth M3 z with | some b => .ok b M3 | none => .bad) Q (fun c d H' => E c d σ H') := by
      have e : (sB (sInD false f g) env M) = ((f env M).bind fun x M1 => (g env M1).bind fun y M2 => (inDOp false x y M2).bind fun z M3 => match truth M3 z with | some b => .ok b M3 | none => .bad) := by
        unfold sB sInD sTwo
        rw [Out.assoc]
        congr 1
        funext x M1
        rw [Out.assoc]
        try rfl
      rw [← e]; exact h
    exact ⟨W, Z, φ, env, M, R, Er, (RunB.bind h').imp fun v H1 ⟨W1, M1, x, _, R1, x1, r1, h2⟩ =>
      ⟨W1, Z, φ, env, M1, R1, Er.ext x1.bar, (RunB.bind h2).imp fun u H2 ⟨W2, M2, y, _, R2, x2, r2, h4⟩ => by
        unfold inDOp at h4
        cases e : dIn x y M2 with
        | none => rw [e] at h4; exact h4.elim
        | some bb =>
          rw [e] at h4
          obtain ⟨p, ov, rfl, hg, rfl⟩ := dget_of R2 (r1.sr.ext x2.bar) r2.sr e
          refine ⟨p, ov, rfl, hg, _, rfl, ?_⟩
          have h5 : RunB (gm X) Z φ W2 H2 (.ok (false != ov.isSome) M2) Q (fun c d H' => E c d σ H') := h4
          have := RunB.ok R2 h5
          simpa using this⟩⟩
theorem gb_notInD (hu : X.A.units + 65 < cLine) (hm : behindInMarks .NotIn b = false) (ha : GE X E a f) (hb : GE X E b g) : GB X E (.Compare a [.NotIn] [b] pos) (sB (sInD true f g)) :=
  PT.imp (pt_cmp (pc_dnotin (by omega) ha hb) hm) fun σ H Q ⟨W, Z, φ, env, M, R, Er, h⟩ => by
    have h' : RunB (gm X) Z φ W H ((f env M).bind fun x M1 => (g env M1).bind fun y M2 => (inDOp true x y M2).bind fun z M3 => match truth M3 z with | some b => .ok b M3 | none => .bad) Q (fun c d H' => E c d σ H') := by
      have e : (sB (sInD true f g) env M) = ((f env M).bind fun x M1 => (g env M1).bind fun y M2 => (inDOp true x y M2).bind fun z M3 => match truth M3 z with | some b => .ok b M3 | none => .bad) := by
        unfold sB sInD sTwo
        rw [Out.assoc]
        congr 1
        funext x M1
        rw [Out.assoc]
        try rfl
      rw [← e]; exact h
    exact ⟨W, Z, φ, env, M, R, Er, (RunB.bind h').imp fun v H1 ⟨W1, M1, x, _, R1, x1, r1, h2⟩ =>
      ⟨W1, Z, φ, env, M1, R1, Er.ext x1.bar, (RunB.bind h2).imp fun u H2 ⟨W2, M2, y, _, R2, x2, r2, h4⟩ => by
        unfold inDOp at h4
        cases e : dIn x y M2 with
        | none => rw [e] at h4; exact h4.elim
        | some bb =>
          rw [e] at h4
          obtain ⟨p, ov, rfl, hg, rfl⟩ := dget_of R2 (r1.sr.ext x2.bar) r2.sr e
          refine ⟨p, ov, rfl, hg, _, rfl, ?_⟩
          have h5 : RunB (gm X) Z φ W2 H2 (.ok (true != ov.isSome) M2) Q (fun c d H' => E c d σ H') := h4
          have := RunB.ok R2 h5
          simpa using this⟩⟩
end
/-! ### stepping -/
section
variable {β : Type} {kx : Exc → Mem → Out β} {res : Out β} {env : Env} {M : Mem}
theorem e_newD {k : Fl → Mem → Out β} {i : Nat} {c : MC} (h : k (.next (env.set i (some (.cell M.length)))) (M ++ [some c]) = res) : el (sNewD i c env M) k kx = res := h
theorem e_inD {k : AV → Mem → Out β} {neg : Bool} {f g : SE} (h : el (f env M) (fun x M1 => el (g env M1) (fun y M2 => el (inDOp neg x y M2) k kx) kx) kx = res) : el (sInD neg f g env M) k kx = res := by
  rw [← h]
  unfold sInD sTwo
  rw [el_bind]
  congr
  funext x M1
  rw [el_bind]
theorem p_inD {k : AV → Mem → Out β} {neg b : Bool} {x y : AV} (e : dIn x y M = some b) (h : k (.d (.bl (neg != b))) M = res) : el (inDOp neg x y M) k kx = res := by
  unfold inDOp
  rw [e]
  exact h
def putK1 (v o i : AV) (M : Mem) (q : Mem → Out β) : Out β := match v with
  | .d d => match dPut d o i M with
    | some M4 => q M4
    | none => .bad
  | _ => .bad
theorem e_putD {k : Fl → Mem → Out β} {fo fi fv : SE} (h : el (fv env M) (fun v M1 => el (fo env M1) (fun o M2 => el (fi env M2) (fun i M3 => putK1 v o i M3 fun M4 => k (.next env) M4) kx) kx) kx = res) : el (sPutD fo fi fv env M) k kx = res := by
  rw [← h]
  unfold sPutD
  rw [el_bind]
  congr
  funext v M1
  rw [el_bind]
  congr
  funext o M2
  rw [el_bind]
  congr
  funext i M3
  unfold putK1
  cases v with
  | d d =>
    dsimp only
    cases dPut d o i M3 <;> rfl
  | _ => rfl
theorem p_putD {d : D} {o i : AV} {M4 : Mem} {q : Mem → Out β} (e : dPut d o i M = some M4) (h : q M4 = res) : putK1 (.d d) o i M q = res := by
  unfold putK1
  dsimp only
  rw [e]
  exact h
end
theorem dIn_t (kt : ktOn = false) {c : Nat} {M : Mem} {kvs : List (List Int × D)} {ks : List Int} (e : M[c]? = some (some (.t kvs))) : dIn (.d (ti ks)) (.cell c) M = some (hasK kvs ks) := by
  unfold dIn
  dsimp only
  rw [e]
  show (ksOf (ti ks)).map (hasK kvs) = _
  have : ksOf (ti ks) = some ks := by
    show (if ktOn = true then none else ints? (ks.map D.int)) = _
    rw [kt]
    exact ints_map ks
  rw [this]
  rfl
theorem dIn_k {c : Nat} {M : Mem} {kvs : List (Int × D)} {i : Int} (e : M[c]? = some (some (.k kvs))) : dIn (.d (.int i)) (.cell c) M = some (hasK kvs i) := by
  unfold dIn
  dsimp only
  rw [e]
theorem dPut_t (kt : ktOn = false) {c : Nat} {M : Mem} {kvs : List (List Int × D)} {ks : List Int} {d : D} (e : M[c]? = some (some (.t kvs))) (hl : kvs.length < 1000000) : dPut d (.cell c) (.d (ti ks)) M = some (M.set c (some (.t (putL kvs ks d)))) := by
  have hs : kvs.length < sizeLine := Nat.lt_of_lt_of_le hl (by decide)
  unfold dPut
  dsimp only
  rw [e]
  have : ksOf (ti ks) = some ks := by
    show (if ktOn = true then none else ints? (ks.map D.int)) = _
    rw [kt]
    exact ints_map ks
  dsimp only
  rw [this]
  dsimp only
  rw [if_pos hs]
theorem dPut_k {c : Nat} {M : Mem} {kvs : List (Int × D)} {i : Int} {d : D} (e : M[c]? = some (some (.k kvs))) (hl : kvs.length < 1000000) : dPut d (.cell c) (.d (.int i)) M = some (M.set c (some (.k (putL kvs i d)))) := by
  have hs : kvs.length < sizeLine := Nat.lt_of_lt_of_le hl (by decide)
  unfold dPut
  dsimp only
  rw [e]
  dsimp only
  rw [if_pos hs]
end Mp

namespace Mp
open PySem L2 PySem.Spec PyProof.Rows

/-! ## max(t), min(t) of a tuple of ints -/
theorem reads_vals {h : Heap} : ∀ {ns : List Int} {its : List Value}, Vals (ns.map V.int) its → ∃ as, ReadsAll h its (ns.map PyData.int) as
  | [], _, r => by cases r; exact ⟨_, .nil⟩
  | n :: ns, _, r => by
    cases r with
    | cons r t =>
      obtain ⟨as, h⟩ := reads_vals t
      obtain ⟨_, rfl⟩ := r
      exact ⟨_, .cons (.int _ _) h⟩
theorem maxL_fold : ∀ (r : List Int) (m : Int), r.foldl max m = maxL m r
  | [], _ => rfl
  | x :: r, m => maxL_fold r (max m x)
theorem minL_fold : ∀ (r : List Int) (m : Int), r.foldl min m = minL m r
  | [], _ => rfl
  | x :: r, m => minL_fold r (min m x)
def rMaxT (K : PySem.W.Frag) : List V → Hp → VK → Prop := fun vs H Q => ∃ (a : Addr) (m : Int) (ns : List Int), vs = [V.ref a] ∧ SqT K H a ((m :: ns).map V.int) ∧ Q (.int (maxL m ns)) H
def rMinT (K : PySem.W.Frag) : List V → Hp → VK → Prop := fun vs H Q => ∃ (a : Addr) (m : Int) (ns : List Int), vs = [V.ref a] ∧ SqT K H a ((m :: ns).map V.int) ∧ Q (.int (minL m ns)) H
theorem alike_ints2 (ns : List Int) : PySem.W.AlikeAll (ns.map PyData.int) := by
  refine ⟨fun x hx y hy => ?_, fun x hx => ?_⟩
  · obtain ⟨a, _, rfl⟩ := List.mem_map.mp hx
    obtain ⟨b, _, rfl⟩ := List.mem_map.mp hy
    rfl
  · obtain ⟨a, _, rfl⟩ := List.mem_map.mp hx
    exact fun h => nomatch h
theorem cr_maxT {X : Cx} (hc : X.calm = true) (hu : X.A.units + 64 < cLine) : CallR X (.builtin "max") (rMaxT X.K) := by
  intro pins s σ H vs us Q I r h
  obtain ⟨a, m, ns, rfl, hs, q⟩ := h
  obtain ⟨its, rv, ht, _⟩ := I.tuple hs
  rw [Vals.ref1 r]
  obtain ⟨as, hr⟩ := reads_vals (h := s.heap) rv
  refine PySem.W.max_tuple_data (x := .int m) (xs := ns.map .int) (I.ok.hd hc) ht hr (alike_ints2 (m :: ns)) ?_ fun i v h' tk bs hi hr' hk => ?_
  · have := PySem.W.depth_ints (m :: ns)
    rw [show (PyData.int m :: ns.map .int) = (m :: ns).map PyData.int from rfl, this]
    omega
  · rw [PySem.W.maxD_ints, maxL_fold] at hr'
    cases hr'
    exact ⟨.int _, H, I.kept hk, ⟨_, rfl⟩, q⟩
theorem cr_minT {X : Cx} (hc : X.calm = true) (hu : X.A.units + 64 < cLine) : CallR X (.builtin "min") (rMinT X.K) := by
  intro pins s σ H vs us Q I r h
  obtain ⟨a, m, ns, rfl, hs, q⟩ := h
  obtain ⟨its, rv, ht, _⟩ := I.tuple hs
  rw [Vals.ref1 r]
  obtain ⟨as, hr⟩ := reads_vals (h := s.heap) rv
  refine PySem.W.min_tuple_data (x := .int m) (xs := ns.map .int) (I.ok.hd hc) ht hr (alike_ints2 (m :: ns)) ?_ fun i v h' tk bs hi hr' hk => ?_
  · have := PySem.W.depth_ints (m :: ns)
    rw [show (PyData.int m :: ns.map .int) = (m :: ns).map PyData.int from rfl, this]
    omega
  · rw [PySem.W.minD_ints, minL_fold] at hr'
    cases hr'
    exact ⟨.int _, H, I.kept hk, ⟨_, rfl⟩, q⟩
def maxOp2 : List AV → Mem → Out AV
  | [a], M => match (tupOf a).bind ints? with
    | some (m :: ns) => .ok (.d (.int (maxL m ns))) M
    | _ => maxOp [a] M
  | avs, M => maxOp avs M
def minOp2 : List AV → Mem → Out AV
  | [a], M => match (tupOf a).bind ints? with
    | some (m :: ns) => .ok (.d (.int (minL m ns))) M
    | _ => minOp [a] M
  | avs, M => minOp avs M
section
variable {G : Gm} {W Z B : Addr → Prop} {φ : List Addr} {H : Hp} {M : Mem} {Q : VK} {E : XK} {avs : List AV} {vs : List V}
theorem Rel.tupInts {a : AV} {v : V} {ns : List Int} (r : SR G (Bar W Z) φ H a v) (h : (tupOf a).bind ints? = some ns) : ∃ p, v = .ref p ∧ SqT G.K H p (ns.map V.int) := by
  obtain ⟨xs, e1, e2⟩ := Option.bind_eq_some_iff.mp h
  have e3 := ints_ok e2
  subst e3
  have e : a = .d (.tup (ns.map D.int)) := by
    unfold tupOf at e1
    split at e1
    · cases e1; rfl
    · cases e1
  subst e
  have r2 : RD G (Bar W Z) H (.tup (ns.map D.int)) v := r
  cases r2 with
  | tup h1 h2 =>
    rw [h2.ints] at h1
    exact ⟨_, rfl, h1.sq⟩
theorem max2_run (R : Rel G W Z φ M H) (r : SRs G (Bar W Z) φ H avs vs) (h : Run G Z φ W H (maxOp2 avs M) Q E) : rMaxT G.K vs H Q ∨ (rMax G.K vs H Q ∨ ∃ i j, vs = [.int i, .int j] ∧ Q (.int (if j > i then j else i)) H) := by
  unfold maxOp2 at h
  split at h
  · split at h
    · rename_i m ns e
      left
      obtain ⟨v, rfl, r1⟩ := r.one
      obtain ⟨p, rfl, h1⟩ := Rel.tupInts r1 e
      exact ⟨p, m, ns, rfl, h1, Run.ok R h (.int _) (fun _ z => by cases z)⟩
    · exact .inr (max_run R r h)
  · exact .inr (max_run R r h)
theorem min2_run (R : Rel G W Z φ M H) (r : SRs G (Bar W Z) φ H avs vs) (h : Run G Z φ W H (minOp2 avs M) Q E) : rMinT G.K vs H Q ∨ (rMin G.K vs H Q ∨ ∃ i j, vs = [.int i, .int j] ∧ Q (.int (if j < i then j else i)) H) := by
  unfold minOp2 at h
  split at h
  · split at h
    · rename_i m ns e
      left
      obtain ⟨v, rfl, r1⟩ := r.one
      obtain ⟨p, rfl, h1⟩ := Rel.tupInts r1 e
      exact ⟨p, m, ns, rfl, h1, Run.ok R h (.int _) (fun _ z => by cases z)⟩
    · exact .inr (min_run R r h)
  · exact .inr (min_run R r h)
end
section
variable {X : Cx} {E : WX} {e : Expr} {es : List Expr} {l : SL} {pos p : Pos}
theorem gc_max2 (hu : X.A.units + 65 < cLine) (hc : X.calm = true) (hl : GL X E (e :: es) l) (he : starEach (e :: es) X.env = (false, eval e X.env) :: starEach es X.env) (hpl : (backTo pos (starEach es X.env)).any (·.1) = false) (hg : Gl X "max") (hm : X.mg "max" = none) : GE X E (.Call (.Name "max" p) (e :: es) [] pos) (sArgs maxOp2 l) :=
  ge_bi (fun h => pe_callB ((cr_maxT hc (by omega)).or ((cr_max hc).or (call_max2 hc))) hg hm boot_max h (he := he) (hpl := hpl)) hl fun W Z φ M H avs vs Q E R r h => max2_run R r h
theorem gc_min2 (hu : X.A.units + 65 < cLine) (hc : X.calm = true) (hl : GL X E (e :: es) l) (he : starEach (e :: es) X.env = (false, eval e X.env) :: starEach es X.env) (hpl : (backTo pos (starEach es X.env)).any (·.1) = false) (hg : Gl X "min") (hm : X.mg "min" = none) : GE X E (.Call (.Name "min" p) (e :: es) [] pos) (sArgs minOp2 l) :=
  ge_bi (fun h => pe_callB ((cr_minT hc (by omega)).or ((cr_min hc).or (call_min2 hc))) hg hm boot_min h (he := he) (hpl := hpl)) hl fun W Z φ M H avs vs Q E R r h => min2_run R r h
end
section
variable {β : Type} {kx : Exc → Mem → Out β} {res : Out β} {k : AV → Mem → Out β} {M : Mem}
theorem p_max2 {i j : Int} (h : k (.d (.int (max i j))) M = res) : el (maxOp2 [.d (.int i), .d (.int j)] M) k kx = res := h
theorem p_min2 {i j : Int} (h : k (.d (.int (min i j))) M = res) : el (minOp2 [.d (.int i), .d (.int j)] M) k kx = res := h
theorem max2_t {m : Int} {ns : List Int} : maxOp2 [.d (ti (m :: ns))] M = .ok (.d (.int (maxL m ns))) M := by
  show (match (some ((m :: ns).map D.int)).bind ints? with
    | some (m :: ns) => Out.ok (AV.d (.int (maxL m ns))) M
    | _ => maxOp [.d (ti (m :: ns))] M) = _
  rw [Option.bind_some, ints_map]
theorem min2_t {m : Int} {ns : List Int} : minOp2 [.d (ti (m :: ns))] M = .ok (.d (.int (minL m ns))) M := by
  show (match (some ((m :: ns).map D.int)).bind ints? with
    | some (m :: ns) => Out.ok (AV.d (.int (minL m ns))) M
    | _ => minOp [.d (ti (m :: ns))] M) = _
  rw [Option.bind_some, ints_map]
theorem max2_l {m : Int} {ns : List Int} : maxOp2 [.d (.lst ((m :: ns).map .int))] M = .ok (.d (.int (maxL m ns))) M := by
  show (match (some ((m :: ns).map D.int)).bind ints? with
    | some (m :: ns) => Out.ok (AV.d (.int (maxL m ns))) M
    | _ => .bad) = _
  rw [Option.bind_some, ints_map]
theorem min2_l {m : Int} {ns : List Int} : minOp2 [.d (.lst ((m :: ns).map .int))] M = .ok (.d (.int (minL m ns))) M := by
  show (match (some ((m :: ns).map D.int)).bind ints? with
    | some (m :: ns) => Out.ok (AV.d (.int (minL m ns))) M
    | _ => .bad) = _
  rw [Option.bind_some, ints_map]
end
end Mp

namespace Mp
open PySem L2 PySem.Spec PyProof.Rows

/-! ## drawn rows, loops with continue, known values -/
theorem e_is {α β : Type} {kx : Exc → Mem → Out β} {res : Out β} {k : α → Mem → Out β} {r : Out α} {v : α} {M' : Mem} (e : r = .ok v M') (h : k v M' = res) : el r k kx = res := by rw [e]; exact h
theorem p_addT {β : Type} {kx : Exc → Mem → Out β} {res : Out β} {k : AV → Mem → Out β} {xs ys : List D} {M : Mem} (h : xs.length + ys.length ≤ 1000000) (q : k (.d (.tup (xs ++ ys))) M = res) : el (binop .Add (opnd M (.d (.tup xs))) (opnd M (.d (.tup ys))) M) k kx = res := by rw [add_tup h]; exact q
/-- a comprehension whose items change the state -/
theorem comp_ex {f : SE} {c : SB} {tg : Tg} {vs : List Nat} {env : Env} {I : Mem → Prop} {Pr : D → Prop} : ∀ (items acc : List D) (M : Mem), I M →
    (∀ d ∈ items, ∀ M, I M → ∃ e, tg.bind d (wipeE env vs) = some e ∧ c e M = .ok true M ∧ ∃ av M' x, f e M = .ok av M' ∧ keepD av M' = some (x, M') ∧ Pr x ∧ I M') → acc.length + items.length ≤ 1000000 →
    ∃ xs M', compL f c tg vs [] env items acc M = .ok (.fr (acc ++ xs)) M' ∧ I M' ∧ xs.length = items.length ∧ ∀ x ∈ xs, Pr x
  | [], acc, M, h, _, _ => ⟨[], M, by simp [compL, depsOk], h, rfl, fun x hx => nomatch hx⟩
  | d :: r, acc, M, h, step, hl => by
    obtain ⟨e, e1, e2, av, M1, x, e3, e4, hx, h1⟩ := step d List.mem_cons_self M h
    rw [List.length_cons] at hl
    obtain ⟨xs, M2, e5, h2, h3, h4⟩ := comp_ex r (acc ++ [x]) M1 h1 (fun d hd => step d (.tail _ hd)) (by rw [List.length_append, List.length_singleton]; omega)
    refine ⟨x :: xs, M2, ?_, h2, by rw [List.length_cons, List.length_cons, h3], fun y hy => ?_⟩
    · rw [compL, if_pos (by rfl), e1]
      dsimp only
      rw [e2]
      dsimp only
      rw [e3]
      dsimp only
      rw [e4]
      dsimp only
      have hs : acc.length < sizeLine := Nat.lt_of_lt_of_le (show acc.length < 1000001 by omega) (by decide)
      rw [if_pos hs, e5, List.append_assoc, List.singleton_append]
    · rcases List.mem_cons.mp hy with rfl | hy
      · exact hx
      · exact h4 y hy
/-- a loop whose body may go on early -/
theorem for_okC {body : SS} {tg : Tg} {I : Env → Mem → Prop} : ∀ (items : List D) (step : ∀ d ∈ items, ∀ env M, I env M → ∃ e env' M', tg.bind d env = some e ∧ (body e M = .ok (.next env') M' ∨ body e M = .ok (.cont env') M') ∧ I env' M') (env : Env) (M : Mem), I env M → ∃ env' M', forL body tg [] items env M = .ok (.next env') M' ∧ I env' M'
  | [], _, env, M, h => ⟨env, M, rfl, h⟩
  | d :: r, step, env, M, h => by
    obtain ⟨e, env1, M1, e1, e2, h1⟩ := step d List.mem_cons_self env M h
    obtain ⟨env2, M2, e3, h2⟩ := for_okC r (fun d hd => step d (.tail _ hd)) env1 M1 h1
    refine ⟨env2, M2, ?_, h2⟩
    rw [forL, if_pos (by rfl), e1]
    dsimp only
    rcases e2 with e2 | e2
    · rw [e2, Out.bind_ok]
      exact e3
    · rw [e2, Out.bind_ok]
      exact e3
end Mp

set_option maxHeartbeats 4000000
namespace Mp
open PySem L2 PySem.Spec PyProof.Rows

/-! ## sorted(set(..)) of ints -/
section
variable {P : Program} {w : World} {A : Around} {E : Value → Shared → Prop} {s : Shared}
/-- the empty set that is laid first -/
abbrev set0 (w : World) : Obj := { cls := .type "set", dict := none, data := .set #[] 0 (.fresh 0 0 (!w.params.followText "set-order")) }
/-- what set(l) leaves -/
abbrev SetLeft (w : World) (s : Shared) (ns : List Int) (s2 : Shared) : Prop := ∃ h2 t2 c, s2 = { s with heap := h2, toks := t2 } ∧ SetR w h2 s.heap.objs.size (fun j => decide (j ∈ ns)) c ∧ c ≤ ns.length ∧ ∀ b o, s.heap.get? b = some o → h2.get? b = some o
theorem set_from_list {l : Addr} {its : Array Value} (ns : List Int) {Q : Value → Shared → Prop} (hh : A.handled = none) (hl : s.heap.IsList l its) (hi : IntsAre its.toList ns) (hb : ns.length + 1 < scanBound)
    (q : ∀ s2, SetLeft w s ns s2 → Q (.ref s.heap.objs.size) s2) : wpAny (model P w) A (call (.type "set") [.ref l]) Q E s := by
  have hn : its.size = ns.length := by rw [← Array.length_toList]; exact IntsAre.length hi
  have vals : ∀ (i : Nat) (v : Value), its[i]? = some v → ∃ k t, ns[i]? = some k ∧ v = .int k t := fun i v hv => by
    obtain ⟨lt, _⟩ := Array.getElem?_eq_some_iff.mp hv
    obtain ⟨t, e⟩ := PyProof.Rows.IntsAre.int_at hi i v (by rw [Array.getElem?_toList]; exact hv)
    have lt2 : i < ns.length := hn ▸ lt
    exact ⟨ns[i], t, List.getElem?_eq_getElem lt2, by rw [e, List.getD_eq_getElem?_getD, List.getElem?_eq_getElem lt2]; rfl⟩
  obtain ⟨c0, tl, mro⟩ := F.called_set.mro
  have f1 := F.called_set.made
  have f2 := F.called_set.sub
  have f3 := F.called_set.notType
  have f4 := F.called_set.canCreate
  have f5 := F.typeCall_set_1 (.ref l)
  have wt := weight_type_call_type "set" [.ref l] []
  refine wpAny_call (codeAny_of_tree (wpAny_pure (α := _) ⟨Code.quiet_builtin _ (by decide +kernel), codeAny_builtin F.entry_type_call ?_⟩))
  rw [Around.under_plain wt rfl]
  repeat (any_goals (first | assumption | wp_step))
  -- the object
  have made := code_set_led1 (P := P) (w := w) (A := A.in1) (s := s) (.ref l) (E := E) (Q₁ := fun x s1 => x = .ref s.heap.objs.size ∧ s1 = { s with heap := s.heap.push (set0 w) }) ⟨rfl, rfl⟩
  refine codeAny_mono made fun r s1 hr => ?_
  match r, hr with
  | .error e, hr => exact hr
  | .ok (.ret x), hr =>
    obtain ⟨rfl, rfl⟩ := hr
    have at0 : (s.heap.push (set0 w)).get? s.heap.objs.size = some (set0 w) := Heap.get?_push_size _ rfl
    have ty : Shared.TypeIs { s with heap := s.heap.push (set0 w) } (.ref s.heap.objs.size) "set" := ⟨_, at0, rfl⟩
    have g1 := F.called_set.init.lookup
    have g2 := F.called_set.init.bind (.ref s.heap.objs.size)
    repeat (any_goals (first | assumption | wp_step))
    have done := codeAny_call_builtin (prog := P) (w := w) (A := A.in1) (s := { s with heap := s.heap.push (set0 w) }) (R := wants (fun r s2 => r = .none ∧ SetLeft w s ns s2) E) F.called_set.init.plain F.entry_set_init (check_set_init_1 (a := .ref l) ty ?_)
    · refine codeAny_mono done fun r s2 hr2 => ?_
      match r, hr2 with
      | .error e, hr2 => exact hr2
      | .ok (.ret x), hr2 =>
        obtain ⟨rfl, left⟩ := hr2
        repeat (any_goals (first | assumption | wp_step))
        exact q s2 left
      | .ok .next, hr2 => exact hr2.elim
      | .ok .brk, hr2 => exact hr2.elim
      | .ok .cont, hr2 => exact hr2.elim
    · obtain ⟨⟨cl, di, da, so⟩, e1, e2, nl, e3⟩ := hl
      simp only at e2 e3
      subst e2; subst e3
      have e4 : (s.heap.push (set0 w)).get? l = some { cls := .type "list", dict := di, data := .seq its nl, slots := so } := Heap.get?_push_of_some _ e1
      have lst : (s.heap.push (set0 w)).IsList l its := ⟨_, e4, rfl, nl, rfl⟩
      have f6 := F.sub_list_set
      have f7 := F.sub_list_frozenset
      have f8 : (Value.type "list" == Value.type "dict") = false := by decide
      have ltl : l < s.heap.objs.size := Heap.lt_size e1
      have sz : (s.heap.push (set0 w)).objs.size = s.heap.objs.size + 1 := Heap.size_push ..
      unfold Builtin.«set.__init__» noKeywords
      unfold Builtin.Frozenset.updateFrom
      generalize gI : pyIter = itr
      wp_walk
      subst gI
      refine wpAny_pyIter_list lst (wpAny_bind (wpAny_runValue ?_))
      have ne1 : l ≠ (s.heap.push (set0 w)).objs.size := sz ▸ Nat.ne_of_lt (Nat.lt_succ_of_lt ltl)
      have ne2 : s.heap.objs.size ∉ [(s.heap.push (set0 w)).objs.size, l] := fun z => by
        rcases List.mem_cons.mp z with z | z
        · exact Nat.ne_of_lt (Nat.lt_succ_self _) (z.trans sz)
        · exact Nat.ne_of_gt ltl (List.mem_singleton.mp z)
      refine set_update_ints ((Walks.list (by simp [hh]) _ l ne1 its).toS) s.heap.objs.size ne2 ns hn hb vals its.size 0 _ (by omega) (Nat.zero_le _) ?st ⟨0, Nat.le_refl 0, setR_new_at (Heap.get?_push_of_some _ at0)⟩ ?fin
      case st => exact ⟨⟨_, Heap.get?_push_size _ rfl, rfl, rfl⟩, lst.push _⟩
      case fin =>
        intro s2 c mv hc sr
        obtain ⟨hp, gs, dr, tk, os⟩ := s2
        have k1 : gs = s.gens := mv.gens
        have k2 : dr = s.drawn := mv.drawn
        have k3 : os = s.os := mv.os
        subst k1 k2 k3
        refine wpAny_pure (wpAny_pure ⟨rfl, hp, tk, c, rfl, sr, hn ▸ hc, fun b o e => ?_⟩)
        have lb : b < s.heap.objs.size := Heap.lt_size e
        refine mv.heap b o (fun z => ?_) (Heap.get?_push_of_some _ (Heap.get?_push_of_some _ e))
        rcases List.mem_cons.mp z with z | z
        · exact Nat.ne_of_lt lb z
        · exact Nat.ne_of_lt (Nat.lt_succ_of_lt lb) ((List.mem_singleton.mp z).trans sz)
  | .ok .next, hr => exact hr.elim
  | .ok .brk, hr => exact hr.elim
  | .ok .cont, hr => exact hr.elim
end
/-- set(t), of a list or a tuple of ints -/
def rSetI (K : PySem.W.Frag) (w : World) : List V → Hp → VK → Prop := fun vs H Q => ∃ (p : Addr) (ns : List Int), vs = [V.ref p] ∧ (SqT K H p (ns.map V.int) ∨ SqL K H p (ns.map V.int)) ∧ ns.length ≤ 1000 ∧
  ∀ (a : Addr) (S : Int → Bool) (n : Nat), H a = none → (∀ k, S k = true ↔ k ∈ ns) → n ≤ ns.length → Q (.ref a) (upd H a (SetO w a S n))
section
variable {X : Cx}
theorem set_laid {pins : List (Addr × Obj)} {σ : L2.St} {H : Hp} {s : Shared} {ns : List Int} {Q : VK} (I : Inv X pins σ H s)
    (q : ∀ (a : Addr) (S : Int → Bool) (n : Nat), H a = none → (∀ k, S k = true ↔ k ∈ ns) → n ≤ ns.length → Q (.ref a) (upd H a (SetO X.w a S n))) {h2 : Heap} {t2 c : Nat} (R : SetR X.w h2 s.heap.objs.size (fun j => decide (j ∈ ns)) c) (hc : c ≤ ns.length) (kp : ∀ b o, s.heap.get? b = some o → h2.get? b = some o) :
    EP X pins σ Q (.ref s.heap.objs.size) { s with heap := h2, toks := t2 } := by
  have fr : H s.heap.objs.size = none := I.hok.fresh (Nat.le_refl _)
  exact ⟨.ref _, _, I.laid (t' := t2) kp (Nat.le_refl _) (setO_new R), rfl, q _ _ c fr (fun k => decide_eq_true_iff) hc⟩
theorem cr_setI (hc : X.calm = true) : CallR X (.type "set") (rSetI X.K X.w) := by
  intro pins s σ H vs us Q I r h
  obtain ⟨p, ns, rfl, hq, hl, q⟩ := h
  have hd := I.ok.hd hc
  have hb : ns.length + 1 < scanBound := by unfold scanBound; omega
  rw [Vals.ref1 r]
  rcases hq with hq | hq
  · obtain ⟨its, rv, pt, _⟩ := I.tuple hq
    exact call_set_tupI ns hd (show s.heap.IsTuple p its.toArray from pt) (ints_of_vals rv) hb fun h2 t2 c R hn kp => set_laid I q R hn kp
  · obtain ⟨its, rv, pl, _⟩ := I.list hq
    refine set_from_list ns hd pl.isList (ints_of_vals rv) hb fun s2 left => ?_
    obtain ⟨h2, t2, c, rfl, R, hn, kp⟩ := left
    exact set_laid I q R hn kp
end
/-! ### the members in order -/
theorem nodup_eraseDupsI : ∀ (n : Nat) (ns : List Int), ns.length ≤ n → ns.eraseDups.Nodup
  | _, [], _ => List.nodup_nil
  | 0, x :: r, h => by rw [List.length_cons] at h; omega
  | n + 1, x :: r, h => by
    rw [List.length_cons] at h
    rw [List.eraseDups_cons, List.nodup_cons]
    refine ⟨fun hm => ?_, nodup_eraseDupsI n _ (Nat.le_trans (List.length_filter_le _ _) (by omega))⟩
    have := List.mem_eraseDups.mp hm
    rw [List.mem_filter] at this
    simp at this
def sortU (ns : List Int) : List Int := sortI ns.eraseDups
theorem sorted_lt_ext : ∀ (a b : List Int), a.Pairwise (· < ·) → b.Pairwise (· < ·) → (∀ k, k ∈ a ↔ k ∈ b) → a = b
  | [], [], _, _, _ => rfl
  | [], y :: b, _, _, h => absurd ((h y).mpr List.mem_cons_self) (by simp)
  | x :: a, [], _, _, h => absurd ((h x).mp List.mem_cons_self) (by simp)
  | x :: a, y :: b, ha, hb, h => by
    rw [List.pairwise_cons] at ha hb
    have e : x = y := by
      rcases List.mem_cons.mp ((h x).mp List.mem_cons_self) with e | e
      · exact e
      · rcases List.mem_cons.mp ((h y).mpr List.mem_cons_self) with e2 | e2
        · exact e2.symm
        · have := ha.1 y e2
          have := hb.1 x e
          omega
    subst e
    rw [sorted_lt_ext a b ha.2 hb.2 fun k => ?_]
    constructor
    · intro hk
      rcases List.mem_cons.mp ((h k).mp (.tail _ hk)) with e | e
      · have := ha.1 k hk
        omega
      · exact e
    · intro hk
      rcases List.mem_cons.mp ((h k).mpr (.tail _ hk)) with e | e
      · have := hb.1 k hk
        omega
      · exact e
theorem sortU_mem {ns : List Int} {k : Int} : k ∈ sortU ns ↔ k ∈ ns := by
  unfold sortU
  rw [(sortI_perm _).mem_iff, List.mem_eraseDups]
theorem sortU_lt (ns : List Int) : (sortU ns).Pairwise (· < ·) := by
  have h1 := sortI_sorted ns.eraseDups
  have h2 : (sortI ns.eraseDups).Nodup := (sortI_perm _).nodup_iff.mpr (nodup_eraseDupsI _ _ (Nat.le_refl _))
  unfold sortU
  refine (h1.and h2).imp fun {a b} h => ?_
  obtain ⟨x, y⟩ := h
  omega
/-! ### sorted(set(e)) -/
def seqOf (M : Mem) (a : AV) : Option (List D) := match tupOf a with
  | some xs => some xs
  | none => lstOf M a
def sortSetOp (a : AV) (M : Mem) : Out AV := match (tupOf a).bind ints?, (lstOf M a).bind ints? with
  | some ns, _ => if ns.length < 64 then .ok (.fr ((sortU ns).map D.int)) M else .bad
  | none, some ns => if ns.length < 64 then .ok (.fr ((sortU ns).map D.int)) M else .bad
  | none, none => .bad
def sSortSet (f : SE) : SE := sOne sortSetOp f
section
variable {G : Gm} {W Z : Addr → Prop} {φ : List Addr} {H : Hp} {M : Mem} {Q : VK} {E : XK} {v : V} {w : World}
theorem sortSet_run {a : AV} (R : Rel G W Z φ M H) (r : SR G (Bar W Z) φ H a v) (h : Run G Z φ W H (sortSetOp a M) Q E) : rSetI G.K w [v] H fun y H2 => rSortedSet w [y] H2 Q := by
  have main : ∀ ns : List Int, (∃ p, v = .ref p ∧ (SqT G.K H p (ns.map V.int) ∨ SqL G.K H p (ns.map V.int))) → Run G Z φ W H (if ns.length < 64 then .ok (.fr ((sortU ns).map D.int)) M else .bad) Q E → rSetI G.K w [v] H fun y H2 => rSortedSet w [y] H2 Q := fun ns ⟨p, e, hq⟩ h => by
    subst e
    split at h
    · rename_i h64
      refine ⟨p, ns, rfl, hq, by omega, fun a S n ha hS hn => ⟨a, S, n, rfl, upd_same, by omega, fun ms q hs hm _ hq => ?_⟩⟩
      have e : ms = sortU ns := sorted_lt_ext _ _ hs (sortU_lt ns) fun k => by rw [hm k, hS k, sortU_mem]
      subst e
      exact Run.new (R.laid0 ha) (Run.later (Ext.laid R ha) h) (RDs.of_ints _) q hq
    · exact h.elim
  unfold sortSetOp at h
  split at h
  · rename_i ns e
    obtain ⟨p, rfl, h1⟩ := Rel.tupInts r e
    exact main ns ⟨p, rfl, .inl h1⟩ h
  · rename_i _ ns _ e
    obtain ⟨p, rfl, h1⟩ := R.ints r e
    exact main ns ⟨p, rfl, .inr h1⟩ h
  · exact h.elim
end
section
variable {X : Cx} {E : WX} {e : Expr} {f : SE} {pos p p2 q : Pos}
theorem ge_sortset (hc : X.calm = true) (he : GE X E e f) (hg : Gl X "sorted") (hm : X.mg "sorted" = none) (hg2 : Gl X "set") (hm2 : X.mg "set" = none) (hs : starEach [e] X.env = [(false, eval e X.env)])
    (hs2 : starEach [.Call (.Name "set" p2) [e] [] q] X.env = [(false, eval (.Call (.Name "set" p2) [e] [] q) X.env)]) : GE X E (.Call (.Name "sorted" p) [.Call (.Name "set" p2) [e] [] q] [] pos) (sSortSet f) :=
  PE.imp (pe_callB (cr_sortedSet hc) hg hm boot_sorted (pa_cons (pe_callTy (cr_setI hc) hg2 hm2 PyProof.Rows.boot_set (pa_cons he pa_nil (hs := hs)) (he := hs)) pa_nil (hs := hs2)) (he := hs2)) fun σ H Q ⟨W, Z, φ, env, M, R, Er, h⟩ =>
    ⟨W, Z, φ, env, M, R, Er, (Run.bind h).imp fun v H1 ⟨W1, M1, x, _, R1, x1, r1, h2⟩ => sortSet_run R1 r1.sr h2⟩
end
end Mp

set_option maxHeartbeats 4000000
namespace Mp
open PySem L2 PySem.Spec PyProof.Rows

/-! ## calls without arguments; tuple(range(..)), list(range(..)); list.index -/
section
variable {X : Cx} {E : WX} {k : Nat} {p pos : Pos}
theorem ge_call0 {x : Str} {F : List AV → Mem → Out AV} (c : Cald X k x F) (hr : Room k X.A) (tk : Takes X E) (hg : Gl X x) (hdb : (x == ("__debug__" : Str)) = false) : GE X E (.Call (.Name x p) [] [] pos) (sArgs F sNil) := by
  obtain ⟨f, fd, ps, h1, h2, h3, h4⟩ := c.ex
  refine ⟨fun pins s σ H Q I h => ?_⟩
  obtain ⟨W, Z, φ, env, M, R, Er, h⟩ := h
  refine wpAny_Call_Name_kw (ld_glob I hg h1 ?_ hdb)
  exact PySem.W.callWith_K0 I.kIn h2 (run_fnS (E := fun σ c d H' => E c d σ H') (us := []) h4 hr h3 (passAt tk σ) I .nil ⟨W, Z, φ, M, [], R, trivial, h⟩)
end
/-! ### range brought into a tuple, a list -/
def rgOk (a b : Int) : Bool := decide (-(2 ^ 62) ≤ a ∧ a < 2 ^ 62 ∧ -(2 ^ 62) ≤ b ∧ b < 2 ^ 62 ∧ (b - a).toNat ≤ 2 ^ 24)
def rgTOp : AV → AV → Mem → Out AV
  | .d (.int a), .d (.int b), M => guard (rgOk a b) (.ok (.d (.tup (rngL a (b - a).toNat))) M)
  | _, _, _ => .bad
def rgLOp : AV → AV → Mem → Out AV
  | .d (.int a), .d (.int b), M => guard (rgOk a b) (.ok (.fr (rngL a (b - a).toNat)) M)
  | _, _, _ => .bad
def sRgT (f g : SE) : SE := sTwo rgTOp f g
def sRgL (f g : SE) : SE := sTwo rgLOp f g
def sRgT1 (f : SE) : SE := sOne (rgTOp (.d (.int 0))) f
def sRgL1 (f : SE) : SE := sOne (rgLOp (.d (.int 0))) f
section
variable {G : Gm} {W Z B : Addr → Prop} {φ : List Addr} {H : Hp} {M : Mem} {Q : VK} {E : XK} {v u : V}
theorem rds_rg (a b : Int) : RDs G B H (rngL a (b - a).toNat) (rgV a b) := by
  have h := RDs.of_ints (G := G) (W := B) (H := H) ((List.range (b - a).toNat).map fun k : Nat => a + (k : Int))
  rw [List.map_map, List.map_map] at h
  exact h
theorem rgT_run {x y : AV} (R : Rel G W Z φ M H) (r1 : SR G (Bar W Z) φ H x v) (r2 : SR G (Bar W Z) φ H y u) (h : Run G Z φ W H (rgTOp x y M) Q E) : ∃ i j, v = .int i ∧ u = .int j ∧ RgOk i j ∧ ∀ q, H q = none → Q (.ref q) (upd H q (.tup (rgV i j))) := by
  unfold rgTOp at h
  split at h
  · cases r1
    cases r2
    obtain ⟨g, h⟩ := guard_run (P := fun r => Run G Z φ W H r Q E) h (fun z => z)
    have g2 := of_decide_eq_true (show decide _ = true from g)
    exact ⟨_, _, rfl, rfl, g2, Run.tup R h (rds_rg _ _)⟩
  · exact h.elim
theorem rgL_run {x y : AV} (R : Rel G W Z φ M H) (r1 : SR G (Bar W Z) φ H x v) (r2 : SR G (Bar W Z) φ H y u) (h : Run G Z φ W H (rgLOp x y M) Q E) : ∃ i j, v = .int i ∧ u = .int j ∧ RgOk i j ∧ ∀ q, H q = none → Q (.ref q) (upd H q (.lst (rgV i j))) := by
  unfold rgLOp at h
  split at h
  · cases r1
    cases r2
    obtain ⟨g, h⟩ := guard_run (P := fun r => Run G Z φ W H r Q E) h (fun z => z)
    have g2 := of_decide_eq_true (show decide _ = true from g)
    exact ⟨_, _, rfl, rfl, g2, Run.new R h (rds_rg _ _)⟩
  · exact h.elim
end
section
variable {X : Cx} {E : WX} {a b : Expr} {f g : SE} {pos p p2 q : Pos}
theorem ge_rgT (hc : X.calm = true) (hg : Gl X "tuple") (hm : X.mg "tuple" = none) (hg2 : Gl X "range") (hm2 : X.mg "range" = none) (ha : GE X E a f) (hb : GE X E b g)
    (n1 : starEach [a, b] X.env = (false, eval a X.env) :: starEach [b] X.env) (n2 : starEach [b] X.env = (false, eval b X.env) :: starEach [] X.env) (n3 : (backTo q (starEach [b] X.env)).any (·.1) = false)
    (n4 : starEach [.Call (.Name "range" p2) [a, b] [] q] X.env = (false, eval (.Call (.Name "range" p2) [a, b] [] q) X.env) :: starEach [] X.env) : GE X E (.Call (.Name "tuple" p) [.Call (.Name "range" p2) [a, b] [] q] [] pos) (sRgT f g) :=
  PE.imp (pe_tupRg hc hg hm (prg_2 hg2 hm2 ha hb (na := n1) (nb := n2) (hp := n3)) (na := n4)) fun σ H Q ⟨W, Z, φ, env, M, R, Er, h⟩ =>
    ⟨W, Z, φ, env, M, R, Er, (Run.bind h).imp fun v H1 ⟨W1, M1, x, _, R1, x1, r1, h2⟩ =>
      ⟨W1, Z, φ, env, M1, R1, Er.ext x1.bar, (Run.bind h2).imp fun u H2 ⟨W2, M2, y, _, R2, x2, r2, h4⟩ => rgT_run R2 (r1.sr.ext x2.bar) r2.sr h4⟩⟩
theorem ge_rgL (hc : X.calm = true) (hg : Gl X "list") (hm : X.mg "list" = none) (hg2 : Gl X "range") (hm2 : X.mg "range" = none) (ha : GE X E a f) (hb : GE X E b g)
    (n1 : starEach [a, b] X.env = (false, eval a X.env) :: starEach [b] X.env) (n2 : starEach [b] X.env = (false, eval b X.env) :: starEach [] X.env) (n3 : (backTo q (starEach [b] X.env)).any (·.1) = false)
    (n4 : starEach [.Call (.Name "range" p2) [a, b] [] q] X.env = (false, eval (.Call (.Name "range" p2) [a, b] [] q) X.env) :: starEach [] X.env) : GE X E (.Call (.Name "list" p) [.Call (.Name "range" p2) [a, b] [] q] [] pos) (sRgL f g) :=
  PE.imp (pe_listRg hc hg hm (prg_2 hg2 hm2 ha hb (na := n1) (nb := n2) (hp := n3)) (na := n4)) fun σ H Q ⟨W, Z, φ, env, M, R, Er, h⟩ =>
    ⟨W, Z, φ, env, M, R, Er, (Run.bind h).imp fun v H1 ⟨W1, M1, x, _, R1, x1, r1, h2⟩ =>
      ⟨W1, Z, φ, env, M1, R1, Er.ext x1.bar, (Run.bind h2).imp fun u H2 ⟨W2, M2, y, _, R2, x2, r2, h4⟩ => rgL_run R2 (r1.sr.ext x2.bar) r2.sr h4⟩⟩
theorem ge_rgT1 (hc : X.calm = true) (hg : Gl X "tuple") (hm : X.mg "tuple" = none) (hg2 : Gl X "range") (hm2 : X.mg "range" = none) (ha : GE X E a f)
    (n1 : starEach [a] X.env = (false, eval a X.env) :: starEach [] X.env)
    (n4 : starEach [.Call (.Name "range" p2) [a] [] q] X.env = (false, eval (.Call (.Name "range" p2) [a] [] q) X.env) :: starEach [] X.env) : GE X E (.Call (.Name "tuple" p) [.Call (.Name "range" p2) [a] [] q] [] pos) (sRgT1 f) :=
  PE.imp (pe_tupRg hc hg hm (prg_1 hg2 hm2 ha (na := n1)) (na := n4)) fun σ H Q ⟨W, Z, φ, env, M, R, Er, h⟩ =>
    ⟨W, Z, φ, env, M, R, Er, (Run.bind h).imp fun v H1 ⟨W1, M1, x, _, R1, x1, r1, h2⟩ => by
      obtain ⟨i, j, e1, e2, ok, k⟩ := rgT_run (v := .int 0) R1 (show SR (gm X) _ φ H1 (.d (.int 0)) (.int 0) from RD.int 0) r1.sr h2
      cases e1
      exact ⟨j, e2, ok, k⟩⟩
theorem ge_rgL1 (hc : X.calm = true) (hg : Gl X "list") (hm : X.mg "list" = none) (hg2 : Gl X "range") (hm2 : X.mg "range" = none) (ha : GE X E a f)
    (n1 : starEach [a] X.env = (false, eval a X.env) :: starEach [] X.env)
    (n4 : starEach [.Call (.Name "range" p2) [a] [] q] X.env = (false, eval (.Call (.Name "range" p2) [a] [] q) X.env) :: starEach [] X.env) : GE X E (.Call (.Name "list" p) [.Call (.Name "range" p2) [a] [] q] [] pos) (sRgL1 f) :=
  PE.imp (pe_listRg hc hg hm (prg_1 hg2 hm2 ha (na := n1)) (na := n4)) fun σ H Q ⟨W, Z, φ, env, M, R, Er, h⟩ =>
    ⟨W, Z, φ, env, M, R, Er, (Run.bind h).imp fun v H1 ⟨W1, M1, x, _, R1, x1, r1, h2⟩ => by
      obtain ⟨i, j, e1, e2, ok, k⟩ := rgL_run (v := .int 0) R1 (show SR (gm X) _ φ H1 (.d (.int 0)) (.int 0) from RD.int 0) r1.sr h2
      cases e1
      exact ⟨j, e2, ok, k⟩⟩
end
/-! ### list.index of an int among ints -/
def sIndex (fo fe : SE) : SE := fun env M => (fo env M).bind fun o M1 => match lstOf M1 o with
  | none => .bad
  | some _ => (fe env M1).bind fun x M2 => match (lstOf M2 o).bind ints?, x with
    | some ns, .d (.int k) => if ns.idxOf k < ns.length then .ok (.d (.int (ns.idxOf k : Nat))) M2 else .bad
    | _, _ => .bad
section
variable {X : Cx} {E : WX} {o e : Expr} {fo fe : SE} {apos pos : Pos}
theorem flat_ints (ns : List Int) : (ns.map V.int).all flatV = true := by
  rw [List.all_map]
  exact List.all_eq_true.mpr fun n _ => rfl
theorem idxOf_get {ns : List Int} {k : Int} (h : ns.idxOf k < ns.length) : ns[ns.idxOf k]? = some k := by
  rw [List.getElem?_eq_getElem h, List.getElem_idxOf]
theorem idxOf_lt {ns : List Int} {k : Int} {m : Nat} (h : m < ns.idxOf k) : ns[m]? ≠ some k := fun e => by
  obtain ⟨hm, e⟩ := List.getElem?_eq_some_iff.mp e
  have := List.not_of_lt_findIdx (p := fun x => x == k) h
  rw [e] at this
  simp at this
theorem gm_index (ho : GE X E o fo) (he : GE X E e fe) (hbase : attributeBase o "index" X.env (eval o X.env) = eval o X.env)
    (hfew : ((backTo pos (starEach [e] X.env)).all (fun x => !x.1) && (backToKw pos (keywordEach [] X.env)).all (fun x => x.1.isSome) && decide (([e] : List Expr).length + ([] : List Keyword).length + (if ([] : List Keyword).isEmpty then 0 else 1) < 30)) = true)
    (hline : (apos.endLine == pos.line) = true) (hs : starEach [e] X.env = (false, eval e X.env) :: starEach [] X.env) (hplain : (backTo pos (starEach ([] : List Expr) X.env)).any (·.1) = false) :
    GE X E (.Call (.Attribute o "index" apos) [e] [] pos) (sIndex fo fe) :=
  PE.imp (pe_bm F.plainAttrs_list F.slot_list_index F.type_list_index mt_index ho (pa_cons he pa_nil hs) (hbase := hbase) (hfew := hfew) (hline := hline) (hs := hs) (hplain := hplain)) fun σ H Q ⟨W, Z, φ, env, M, R, Er, h⟩ =>
    ⟨W, Z, φ, env, M, R, Er, (Run.bind h).imp fun v H1 ⟨W1, M1, x, _, R1, x1, r1, h2⟩ => by
      cases e1 : lstOf M1 x with
      | none => rw [e1] at h2; exact h2.elim
      | some xs =>
        rw [e1] at h2
        dsimp only at h2
        obtain ⟨p, us, rfl, hq, _, _⟩ := R1.lst r1.sr e1
        refine ⟨.inl ⟨rfl, _, hq⟩, W1, Z, φ, env, M1, R1, Er.ext x1.bar, (Run.bind h2).imp fun u H2 ⟨W2, M2, y, _, R2, x2, r2, h3⟩ => ?_⟩
        split at h3
        · rename_i ns k e2 _
          split at h3
          · rename_i hk
            obtain ⟨p2, e3, h4⟩ := R2.ints (r1.sr.ext x2.bar) e2
            cases r2
            rw [e3]
            refine ⟨p2, ns.map V.int, .int k, ns.idxOf k, .int k, rfl, rfl, h4, rfl, flat_ints ns, ?_, ?_, fun m z hm hz => ?_, Run.ok R2 h3 (.int _) (fun _ z => by cases z)⟩
            · rw [List.getElem?_map, idxOf_get hk]
              rfl
            · simp [eqV]
            · rw [List.getElem?_map] at hz
              obtain ⟨n, hn, rfl⟩ := Option.map_eq_some_iff.mp hz
              have := idxOf_lt hm
              simp [eqV]
              intro e
              subst e
              exact this hn
          · exact h3.elim
        · exact h3.elim⟩
end
end Mp

namespace Mp
open PySem L2 PySem.Spec PyProof.Rows

/-! ## walks over mapped lists -/
section
variable {α : Type} {φ : α → D}
theorem comp_map {f : SE} {c : SB} {tg : Tg} {vs : List Nat} {env : Env} {M : Mem} (g : α → D) (p : α → Bool) : ∀ (xs : List α) (acc : List D),
    (∀ a ∈ xs, ∃ e, tg.bind (φ a) (wipeE env vs) = some e ∧ c e M = .ok (p a) M ∧ (p a = true → ∃ av, f e M = .ok av M ∧ keepD av M = some (g a, M))) → acc.length + xs.length ≤ 1000000 →
    compL f c tg vs [] env (xs.map φ) acc M = .ok (.fr (acc ++ (xs.filter p).map g)) M
  | [], acc, _, _ => by simp [compL, depsOk]
  | a :: r, acc, h, hl => by
    obtain ⟨e, e1, e2, e3⟩ := h a List.mem_cons_self
    have hr := fun d hd => h d (.tail _ hd)
    rw [List.length_cons] at hl
    rw [List.map_cons, compL, if_pos (by rfl), e1]
    dsimp only
    rw [e2]
    cases hp : p a with
    | false =>
      dsimp only
      rw [comp_map g p r acc hr (by omega), List.filter_cons_of_neg (by rw [hp]; decide)]
    | true =>
      obtain ⟨av, e4, e5⟩ := e3 hp
      dsimp only
      rw [e4]
      dsimp only
      rw [e5]
      dsimp only
      have hs : acc.length < sizeLine := Nat.lt_of_lt_of_le (show acc.length < 1000001 by omega) (by decide)
      rw [if_pos hs, comp_map g p r (acc ++ [g a]) hr (by rw [List.length_append, List.length_singleton]; omega), List.filter_cons_of_pos hp, List.map_cons, List.append_assoc, List.singleton_append]
theorem e_compM {β : Type} {kx : Exc → Mem → Out β} {res : Out β} {k : AV → Mem → Out β} {f : SE} {c : SB} {tg : Tg} {vs : List Nat} {env : Env} {M : Mem} (xs : List α) (g : α → D) (p : α → Bool)
    (h : ∀ a ∈ xs, ∃ e, tg.bind (φ a) (wipeE env vs) = some e ∧ c e M = .ok (p a) M ∧ (p a = true → ∃ av, f e M = .ok av M ∧ keepD av M = some (g a, M))) (hl : xs.length ≤ 1000000)
    (q : k (.fr ((xs.filter p).map g)) M = res) : el (compL f c tg vs [] env (xs.map φ) [] M) k kx = res := by
  rw [comp_map g p xs [] h (by simpa using hl)]
  exact q
/-- no condition -/
theorem e_compA {β : Type} {kx : Exc → Mem → Out β} {res : Out β} {k : AV → Mem → Out β} {f : SE} {tg : Tg} {vs : List Nat} {env : Env} {M : Mem} (xs : List α) (g : α → D)
    (h : ∀ a ∈ xs, ∃ e, tg.bind (φ a) (wipeE env vs) = some e ∧ ∃ av, f e M = .ok av M ∧ keepD av M = some (g a, M)) (hl : xs.length ≤ 1000000)
    (q : k (.fr (xs.map g)) M = res) : el (compL f sYes tg vs [] env (xs.map φ) [] M) k kx = res :=
  e_compM xs g (fun _ => true) (fun a ha => by
    obtain ⟨e, e1, av, e2⟩ := h a ha
    exact ⟨e, e1, rfl, fun _ => ⟨av, e2⟩⟩) hl (by rw [List.filter_eq_self.mpr (fun _ _ => rfl)]; exact q)
/-- a loop: what holds of what was walked -/
theorem for_pre {body : SS} {tg : Tg} {I : List α → Env → Mem → Prop} : ∀ (rest done : List α) (step : ∀ d a r, done ++ rest = d ++ a :: r → ∀ env M, I d env M → ∃ e env' M', tg.bind (φ a) env = some e ∧ body e M = .ok (.next env') M' ∧ I (d ++ [a]) env' M') (env : Env) (M : Mem), I done env M →
    ∃ env' M', forL body tg [] (rest.map φ) env M = .ok (.next env') M' ∧ I (done ++ rest) env' M'
  | [], done, _, env, M, h => ⟨env, M, rfl, by rw [List.append_nil]; exact h⟩
  | a :: r, done, step, env, M, h => by
    obtain ⟨e, env1, M1, e1, e2, h1⟩ := step done a r rfl env M h
    obtain ⟨env2, M2, e3, h2⟩ := for_pre r (done ++ [a]) (fun d b q hq => step d b q (by rw [← hq, List.append_assoc]; rfl)) env1 M1 h1
    refine ⟨env2, M2, ?_, by rw [List.append_assoc] at h2; exact h2⟩
    rw [List.map_cons, forL, if_pos (by rfl), e1]
    dsimp only
    rw [e2, Out.bind_ok]
    exact e3
theorem e_pre {β : Type} {kx : Exc → Mem → Out β} {res : Out β} {k : Fl → Mem → Out β} {body : SS} {tg : Tg} {env : Env} {M : Mem} (xs : List α) (I : List α → Env → Mem → Prop) (h0 : I [] env M)
    (step : ∀ d a r, xs = d ++ a :: r → ∀ env M, I d env M → ∃ e env' M', tg.bind (φ a) env = some e ∧ body e M = .ok (.next env') M' ∧ I (d ++ [a]) env' M') (h : ∀ env' M', I xs env' M' → k (.next env') M' = res) : el (forL body tg [] (xs.map φ) env M) k kx = res := by
  obtain ⟨env', M', e, q⟩ := for_pre (φ := φ) (I := I) xs [] (fun d a r e => step d a r (by simpa using e)) env M h0
  rw [e]
  exact h env' M' (by simpa using q)
/-- a loop over a range: the number of turns told -/
theorem e_rng {β : Type} {kx : Exc → Mem → Out β} {res : Out β} {k : Fl → Mem → Out β} {body : SS} {tg : Tg} {env : Env} {M : Mem} {lo : Int} {n : Nat} (I : Nat → Env → Mem → Prop) (h0 : I 0 env M)
    (step : ∀ i, i < n → ∀ env M, I i env M → ∃ e env' M', tg.bind (.int (lo + (i : Nat))) env = some e ∧ body e M = .ok (.next env') M' ∧ I (i + 1) env' M') (h : ∀ env' M', I n env' M' → k (.next env') M' = res) : el (forL body tg [] (rngL lo n) env M) k kx = res := by
  refine e_pre (φ := fun k : Nat => D.int (lo + (k : Nat))) (List.range n) (fun d env M => I d.length env M) h0 (fun d a r e env M hI => ?_) (fun env' M' hI => h env' M' (by rw [List.length_range] at hI; exact hI))
  have hd : a = d.length := by
    have := congrArg (fun l => l[d.length]?) e
    simp only [List.getElem?_append_right (Nat.le_refl _), Nat.sub_self, List.getElem?_cons_zero] at this
    rw [List.getElem?_eq_some_iff] at this
    obtain ⟨h1, h2⟩ := this
    rw [List.getElem_range] at h2
    exact h2.symm
  have hn : d.length < n := by
    have := congrArg List.length e
    rw [List.length_range, List.length_append, List.length_cons] at this
    omega
  subst hd
  rw [List.length_append, List.length_singleton]
  exact step _ hn env M hI
end
/-! ### zip of two rows of ints -/
theorem zipL_int2 : ∀ xs ys : List Int, zipL (xs.map .int) (ys.map .int) = (List.zip xs ys).map fun p => D.tup [.int p.1, .int p.2]
  | [], ys => by cases ys <;> rfl
  | _ :: _, [] => rfl
  | x :: xs, y :: ys => by
    show D.tup [.int x, .int y] :: zipL (xs.map .int) (ys.map .int) = _
    rw [zipL_int2 xs ys]
    rfl
theorem asc_zip : ∀ c : List Int, ((List.zip c c.tail).all fun p => decide (p.1 < p.2)) = true ↔ c.Pairwise (· < ·)
  | [] => by simp
  | [x] => by simp
  | x :: y :: r => by
    have ih := asc_zip (y :: r)
    rw [List.tail_cons] at ih
    rw [List.tail_cons, List.zip_cons_cons, List.all_cons, Bool.and_eq_true, ih, decide_eq_true_eq, List.pairwise_cons (a := x), List.pairwise_cons]
    constructor
    · rintro ⟨h1, h2, h3⟩
      refine ⟨fun z hz => ?_, h2, h3⟩
      rcases List.mem_cons.mp hz with rfl | hz
      · exact h1
      · have := h2 z hz
        have h1 : x < y := h1
        omega
    · rintro ⟨h1, h2, h3⟩
      exact ⟨h1 y List.mem_cons_self, h2, h3⟩
end Mp

namespace Mp
open PySem L2 PySem.Spec PyProof.Rows

/-! ## walks over range(n) -/
theorem rng0 (n : Nat) : rngL 0 n = (List.range n).map fun k : Nat => D.int (k : Int) := by
  unfold rngL
  refine List.map_congr_left fun k _ => ?_
  rw [Int.zero_add]
section
variable {β : Type} {kx : Exc → Mem → Out β} {res : Out β}
theorem e_compRF {k : AV → Mem → Out β} {f : SE} {c : SB} {tg : Tg} {vs : List Nat} {env : Env} {M : Mem} {n : Nat} (g : Nat → D) (p : Nat → Bool) (hl : n ≤ 1000000)
    (h : ∀ j : Nat, j < n → ∃ e, tg.bind (.int (j : Nat)) (wipeE env vs) = some e ∧ c e M = .ok (p j) M ∧ (p j = true → ∃ av, f e M = .ok av M ∧ keepD av M = some (g j, M))) (q : k (.fr (((List.range n).filter p).map g)) M = res) : el (compL f c tg vs [] env (rngL 0 n) [] M) k kx = res := by
  rw [rng0]
  exact e_compM (φ := fun k : Nat => D.int (k : Int)) (List.range n) g p (fun j hj => h j (List.mem_range.mp hj)) (by rw [List.length_range]; exact hl) q
theorem e_compR {k : AV → Mem → Out β} {f : SE} {tg : Tg} {vs : List Nat} {env : Env} {M : Mem} {n : Nat} (g : Nat → D) (hl : n ≤ 1000000)
    (h : ∀ j : Nat, j < n → ∃ e, tg.bind (.int (j : Nat)) (wipeE env vs) = some e ∧ ∃ av, f e M = .ok av M ∧ keepD av M = some (g j, M)) (q : k (.fr ((List.range n).map g)) M = res) : el (compL f sYes tg vs [] env (rngL 0 n) [] M) k kx = res := by
  rw [rng0]
  exact e_compA (φ := fun k : Nat => D.int (k : Int)) (List.range n) g (fun j hj => h j (List.mem_range.mp hj)) (by rw [List.length_range]; exact hl) q
theorem e_compR2F {k : AV → Mem → Out β} {f : SE} {c : SB} {tg : Tg} {vs : List Nat} {env : Env} {M : Mem} {lo : Int} {n : Nat} (g : Nat → D) (p : Nat → Bool) (hl : n ≤ 1000000)
    (h : ∀ j : Nat, j < n → ∃ e, tg.bind (.int (lo + (j : Nat))) (wipeE env vs) = some e ∧ c e M = .ok (p j) M ∧ (p j = true → ∃ av, f e M = .ok av M ∧ keepD av M = some (g j, M))) (q : k (.fr (((List.range n).filter p).map g)) M = res) : el (compL f c tg vs [] env (rngL lo n) [] M) k kx = res :=
  e_compM (φ := fun k : Nat => D.int (lo + (k : Nat))) (List.range n) g p (fun j hj => h j (List.mem_range.mp hj)) (by rw [List.length_range]; exact hl) q
end
theorem rng_at {n a : Nat} {d r : List Nat} (e : List.range n = d ++ a :: r) : a = d.length ∧ d.length < n := by
  have h1 := congrArg (fun l => l[d.length]?) e
  simp only [List.getElem?_append_right (Nat.le_refl _), Nat.sub_self, List.getElem?_cons_zero] at h1
  rw [List.getElem?_eq_some_iff] at h1
  obtain ⟨h1, h2⟩ := h1
  rw [List.getElem_range] at h2
  rw [List.length_range] at h1
  exact ⟨h2.symm, h1⟩
/-- a loop over range(n), a state folded -/
theorem for_rngF {S : Type} {body : SS} {tg : Tg} {n : Nat} (I : S → Env → Mem → Prop) (f : S → Nat → S) (s0 : S) (step : ∀ i s, i < n → s = (List.range i).foldl f s0 → ∀ env M, I s env M → ∃ e env' M', tg.bind (.int (i : Nat)) env = some e ∧ body e M = .ok (.next env') M' ∧ I (f s i) env' M') {env : Env} {M : Mem} (h : I s0 env M) :
    ∃ env' M', forL body tg [] (rngL 0 n) env M = .ok (.next env') M' ∧ I ((List.range n).foldl f s0) env' M' := by
  rw [rng0]
  obtain ⟨env', M', e, h2⟩ := for_pre (φ := fun k : Nat => D.int (k : Int)) (body := body) (tg := tg) (I := fun d env M => d = List.range d.length ∧ I (d.foldl f s0) env M) (List.range n) [] (fun d a r e env M hI => by
    obtain ⟨ha, hn⟩ := rng_at (show List.range n = d ++ a :: r by rw [← e]; rfl)
    obtain ⟨hd, hI⟩ := hI
    subst ha
    obtain ⟨e1, env', M', e2, e3, h3⟩ := step d.length (d.foldl f s0) hn (by rw [← hd]) env M hI
    refine ⟨e1, env', M', e2, e3, ?_, by rw [List.foldl_append]; exact h3⟩
    rw [List.length_append, List.length_singleton, List.range_succ, ← hd]) env M ⟨rfl, h⟩
  exact ⟨env', M', e, h2.2⟩
/-- a loop over mapped items, a state folded -/
theorem for_mapF {S α : Type} {φ : α → D} {body : SS} {tg : Tg} (I : S → Env → Mem → Prop) (f : S → α → S) (s0 : S) (xs : List α) (step : ∀ d a r, xs = d ++ a :: r → ∀ env M, I (d.foldl f s0) env M → ∃ e env' M', tg.bind (φ a) env = some e ∧ body e M = .ok (.next env') M' ∧ I (f (d.foldl f s0) a) env' M') {env : Env} {M : Mem} (h : I s0 env M) :
    ∃ env' M', forL body tg [] (xs.map φ) env M = .ok (.next env') M' ∧ I (xs.foldl f s0) env' M' := by
  obtain ⟨env', M', e, h2⟩ := for_pre (φ := φ) (body := body) (tg := tg) (I := fun d env M => I (d.foldl f s0) env M) xs [] (fun d a r e env M hI => by
    obtain ⟨e1, env', M', e2, e3, h3⟩ := step d a r (by rw [← e]; rfl) env M hI
    exact ⟨e1, env', M', e2, e3, by rw [List.foldl_append]; exact h3⟩) env M h
  exact ⟨env', M', e, by simpa using h2⟩
theorem any_congr {α : Type} {l : List α} {p q : α → Bool} (h : ∀ x ∈ l, p x = q x) : l.any p = l.any q := by
  induction l with
  | nil => rfl
  | cons x r ih => rw [List.any_cons, List.any_cons, h x List.mem_cons_self, ih fun y hy => h y (.tail _ hy)]
theorem all_congr {α : Type} {l : List α} {p q : α → Bool} (h : ∀ x ∈ l, p x = q x) : l.all p = l.all q := by
  induction l with
  | nil => rfl
  | cons x r ih => rw [List.all_cons, List.all_cons, h x List.mem_cons_self, ih fun y hy => h y (.tail _ hy)]
section
variable {β : Type} {kx : Exc → Mem → Out β} {res : Out β} {k : AV → Mem → Out β} {M M2 : Mem}
theorem p_cmpE {op : CmpOp} {x y v : AV} (e : cmpop op x y M = .ok v M2) (h : k v M2 = res) : el (cmpop op x y M) k kx = res := by rw [e]; exact h
theorem e_sortset {f : SE} {env : Env} (h : el (f env M) (fun x M1 => el (sortSetOp x M1) k kx) kx = res) : el (sSortSet f env M) k kx = res := by rw [← h]; exact el_bind _ _ _ _
theorem e_rgT {f g : SE} {env : Env} (h : el (f env M) (fun x M1 => el (g env M1) (fun y M2 => el (rgTOp x y M2) k kx) kx) kx = res) : el (sRgT f g env M) k kx = res := by
  rw [← h]
  unfold sRgT sTwo
  rw [el_bind]
  congr
  funext x M1
  rw [el_bind]
end
end Mp

namespace SrtO
open PySem PyProof PyProof.Rows
variable {prog : Program} {w : World} {A : Around} {E : Value → Shared → Prop} {s : Shared}
theorem collect_tuple {l : Addr} {vs : List Value} {Q : List Value → Shared → Prop} (hl : s.heap.IsTuple l vs.toArray)
    (h : Q vs { s with heap := (s.heap.push (seqObj "list" #[] 0)).update s.heap.objs.size (Obj.mapSeq (· ++ vs.toArray)) }) (hsz : vs.length ≤ sizeLine) :
    wpAny (model prog w) A (collect (.ref l)) Q E s := by
  obtain ⟨o, ho, hc, n, hd⟩ := id hl
  unfold collect
  refine wpAny_bind (wpAny_runValue (codeAny_builtin entry_proto_collect' ?_))
  show wpAny _ _ (do again (.builtin "list.__iadd__" ⟨[← newList [], .ref l], []⟩)) _ _ s
  refine wpAny_bind (wpAny_newList (wpAny_pure ⟨Code.quiet_builtin _ (by decide +kernel), codeAny_builtin entry_list_iadd' ?_⟩))
  show wpAny _ _ (Builtin.List.listExtendWith (.ref s.heap.objs.size) (.ref l) (.ref s.heap.objs.size)) _ _ { s with heap := s.heap.push (seqObj "list" #[] 0) }
  unfold Builtin.List.listExtendWith
  have ho' : (s.heap.push (seqObj "list" #[] 0)).get? l = some o := Heap.get?_push_of_some _ ho
  refine wpAny_bind (wpAny_typeOf (T := "tuple") ⟨o, ho', hc⟩ ?_)
  have ht : (Value.type "tuple" == Value.type "tuple") = true := by rfl
  rw [if_pos (by rw [ht]; simp)]
  refine wpAny_bind (listItems_at ho' hd ?_)
  refine wpAny_bind (listItems_at (xs := #[]) (n := 0) (Heap.get?_push_size _ rfl) rfl ?_)
  rw [if_neg (by simp)]
  refine wpAny_bind (listUpdate_at (xs := #[]) (n := 0) (Heap.get?_push_size _ rfl) rfl ?_ (Nat.zero_le _) (by show (#[] ++ vs.toArray).size ≤ sizeLine + 1; simp only [Array.size_append, List.size_toArray, List.length_nil]; omega))
  refine wpAny_pure ?_
  show wpAny (model prog w) A (do
      let o ← load s.heap.objs.size
      match o.data with
      | .seq xs _ => pure xs.toList
      | _ => unsupported "internal:collect") Q E { s with heap := (s.heap.push (seqObj "list" #[] 0)).update s.heap.objs.size (Obj.mapSeq (· ++ vs.toArray)) }
  refine wpAny_bind (wpAny_load (get?_update_seq (Heap.get?_push_size _ rfl) _) ?_)
  show wpAny _ _ (pure ((#[] : Array Value) ++ vs.toArray).toList) Q E _
  rw [show ((#[] : Array Value) ++ vs.toArray).toList = vs by simp]
  exact wpAny_pure h
theorem sorted_ordT {l : Addr} {vs : List Value} {ltv : Value → Value → Bool} {Q : Value → Shared → Prop} (O : Swo ltv) (hl : s.heap.IsTuple l vs.toArray) (hz : vs.length ≤ sizeLine)
    (hS : 2 ≤ vs.length → ∀ (h₁ : Heap) (a : Addr), h₁.get? a = some (seqObj "list" vs.toArray 0) → (∀ b o, s.heap.get? b = some o → b ≠ a ∧ h₁.get? b = some o) → SortableO prog w A.in1.in1 { s with heap := h₁ } a vs ltv)
    (h : ∀ out : List Value, Srtd ltv out → Stb ltv out vs → Q (.ref (s.heap.objs.size + 1)) { s with heap := sortedAll s.heap vs out.toArray }) :
    wpAny (model prog w) A (call (.builtin "sorted") [.ref l]) Q E s := by
  refine Calls.call_function_entry kind_sorted plain_sorted entry_sorted (args_sorted1 _) ?_
  unfold Builtin.«sorted»
  refine wpAny_bind (m := checkCount "sorted" 1 1 _) (wpAny_pure ?_)
  refine wpAny_bind (collect_tuple hl ?_ hz)
  refine wpAny_bind (wpAny_newList ?_ hz)
  have hsz : ((s.heap.push (seqObj "list" #[] 0)).update s.heap.objs.size (Obj.mapSeq (· ++ vs.toArray))).objs.size = s.heap.objs.size + 1 := by
    rw [Heap.size_update, size_push']
  have hoL : (((s.heap.push (seqObj "list" #[] 0)).update s.heap.objs.size (Obj.mapSeq (· ++ vs.toArray))).push (seqObj "list" vs.toArray 0)).get? (s.heap.objs.size + 1) = some (seqObj "list" vs.toArray 0) := by
    rw [← hsz]; exact Heap.get?_push_size _ rfl
  have keep : ∀ b o, s.heap.get? b = some o → b ≠ s.heap.objs.size + 1 ∧ (((s.heap.push (seqObj "list" #[] 0)).update s.heap.objs.size (Obj.mapSeq (· ++ vs.toArray))).push (seqObj "list" vs.toArray 0)).get? b = some o := fun b o q => by
    have hlt : b < s.heap.objs.size := Heap.lt_size q
    refine ⟨Nat.ne_of_lt (Nat.lt_succ_of_lt hlt), Heap.get?_push_of_some _ ?_⟩
    rw [Heap.get?_update_ne _ _ _ _ (Nat.ne_of_lt hlt)]
    exact Heap.get?_push_of_some _ q
  show wpAny _ _ _ _ _ { s with heap := ((s.heap.push (seqObj "list" #[] 0)).update s.heap.objs.size (Obj.mapSeq (· ++ vs.toArray))).push (seqObj "list" vs.toArray 0) }
  rw [hsz]
  refine wpAny_bind (wpAny_holding (wpAny_call_entry slot_list_sort ⟨_, hoL, rfl⟩ entry_list_sort (list_sort_ord O hoL hz (fun h2 => hS h2 _ _ hoL keep) fun out hs hb => ⟨_, rfl, ?_⟩) (args_list_sort _)))
  exact wpAny_pure ⟨_, rfl, h out hs hb⟩
end SrtO
namespace L2
open PySem PySem.Spec PyProof.Rows
/-- sorted(a tuple), ints -/
def rSortedTI (K : PySem.W.Frag) : List V → Hp → VK → Prop := fun vs H Q => ∃ (a : Addr) (ns : List Int), vs = [V.ref a] ∧ SqT K H a (ns.map V.int) ∧
  ∀ (ns' : List Int) (p : Addr), ns'.Perm ns → ns'.Pairwise (· ≤ ·) → H p = none → Q (.ref p) (upd H p (.lst (ns'.map V.int)))
section
variable {X : Cx}
theorem cr_sortedTI : CallR X (.builtin "sorted") (rSortedTI X.K) := by
  intro pins s σ H vs us Q I r h
  obtain ⟨a, ns, rfl, hs, q⟩ := h
  obtain ⟨its, rv, hl, hz⟩ := I.tuple hs
  rw [Vals.ref1 r]
  have hi := rv.ints
  refine SrtO.sorted_ordT SrtO.swo_int hl (by rw [← rv.length]; exact hz) (fun h2 h₁ a' _ _ => SrtO.ints_sortable hi h2) fun out h1 h2 => ?_
  obtain ⟨k1, k2, k3⟩ := SrtO.ints_out hi h1 h2
  obtain ⟨ep, he'⟩ := PyProof.Rows.sortedAll_at s.heap its out.toArray
  have hlen : ((out.map SrtO.iv).map V.int).length ≤ sizeLine := by
    rw [List.length_map, k2.length_eq]
    rw [List.length_map] at hz
    exact hz
  exact ⟨.ref _, upd H (s.heap.objs.size + 1) (.lst ((out.map SrtO.iv).map V.int)), I.laid (t' := s.toks) (fun _ _ => PyProof.Rows.sortedAll_old) (Nat.le_succ _) ⟨hlen, out, ep, vals_of_ints k1, he'⟩, rfl, q _ _ k2 k3 (I.hok.fresh (Nat.le_succ _))⟩
end
end L2
namespace Mp
open PySem L2 PySem.Spec PyProof.Rows
/-! ## sorted(xs): lists as before, and tuples of ints -/
def sorted3Op : List AV → Mem → Out AV
  | [a], M => match (tupOf a).bind ints? with
    | some ns => .ok (.fr ((sortI ns).map D.int)) M
    | none => sorted2Op [a] M
  | avs, M => sorted2Op avs M
section
variable {G : Gm} {W Z B : Addr → Prop} {φ : List Addr} {H : Hp} {M : Mem} {Q : VK} {E : XK} {avs : List AV} {vs : List V}
theorem sorted3_run (R : Rel G W Z φ M H) (r : SRs G (Bar W Z) φ H avs vs) (h : Run G Z φ W H (sorted3Op avs M) Q E) : rSortedTI G.K vs H Q ∨ (rSortedI G.K vs H Q ∨ rSortedDt G.K vs H Q) := by
  unfold sorted3Op at h
  split at h
  · split at h
    · rename_i ns e
      left
      obtain ⟨v, rfl, r1⟩ := r.one
      obtain ⟨p, rfl, h1⟩ := Rel.tupInts r1 e
      refine ⟨p, ns, rfl, h1, fun ms l hp hs hl => ?_⟩
      have e : ms = sortI ns := sorted_unique (hp.trans (sortI_perm ns).symm) hs (sortI_sorted ns)
      subst e
      exact Run.new R h (RDs.of_ints _) l hl
    · exact .inr (sorted2_run R r h)
  · exact .inr (sorted2_run R r h)
end
section
variable {X : Cx} {E : WX} {e : Expr} {es : List Expr} {l : SL} {pos p : Pos}
theorem gc_sorted3 (hu : X.A.units + 65 < cLine) (hc : X.calm = true) (hl : GL X E (e :: es) l) (he : starEach (e :: es) X.env = (false, eval e X.env) :: starEach es X.env) (hpl : (backTo pos (starEach es X.env)).any (·.1) = false) (hg : Gl X "sorted") (hm : X.mg "sorted" = none) : GE X E (.Call (.Name "sorted" p) (e :: es) [] pos) (sArgs sorted3Op l) :=
  ge_bi (fun h => pe_callB (cr_sortedTI.or (cr_sortedI.or (cr_sortedDt (by omega)))) hg hm boot_sorted h (he := he) (hpl := hpl)) hl fun W Z φ M H avs vs Q E R r h => sorted3_run R r h
end
theorem sorted_ti (c : List Int) (M : Mem) : sorted3Op [.d (ti c)] M = .ok (.fr ((sortI c).map .int)) M := by
  show (match (some (c.map D.int)).bind ints? with
    | some ns => Out.ok (AV.fr ((sortI ns).map D.int)) M
    | none => sorted2Op [.d (ti c)] M) = _
  rw [Option.bind_some, ints_map]
end Mp

set_option maxHeartbeats 4000000
namespace L2
open PySem PySem.Spec PyProof.Rows
section
variable {P : Program} {w : World} {A : Around} {E : Value → Shared → Prop} {s : Shared} {a : Addr}
theorem sorted_setB {S : Int → Bool} {n : Nat} {Q : Value → Shared → Prop} (R : SetR w s.heap a S n) (hh : A.handled = none)
    (hQ : ∀ s' p (out : Array Value) (c : Nat) (ns : List Int), (∀ b o, s.heap.get? b = some o → s'.heap.get? b = some o) → s'.gens = s.gens → s'.os = s.os → s.heap.objs.size ≤ p →
      s'.heap.get? p = some (seqObj "list" out c) → IntsAre out.toList ns → ns.Pairwise (· < ·) → (∀ k, k ∈ ns ↔ S k = true) → ns.length = n → Q (.ref p) s') :
    wpAny (model P w) A (call (.builtin "sorted") [.ref a]) Q E s := by
  obtain ⟨o, es, ep, t, ho, hex, hd, g, nd, hm, hb, hf, hn, hr, hl⟩ := R
  refine Calls.call_function_entry kind_sorted plain_sorted entry_sorted (args_sorted1 _) ?_
  unfold Builtin.«sorted»
  refine wpAny_bind (m := checkCount "sorted" 1 1 _) (wpAny_pure ?_)
  refine wpAny_bind (collect_set (A := A.in1) hh ⟨o, ho, hex.1, hd⟩ hf hb hr hl fun s1 vs k1 hz g1 o1 pm => ?_)
  have hvl : vs.length = es.size := by rw [pm.length_eq, List.length_map, Array.length_toList]
  have hsz : vs.length ≤ sizeLine := by rw [hvl]; exact fits_of_scanBound hb
  have hI : IntsAre vs (vs.map Builtin.Re.reRawOf) := ints_of vs fun v hv => by
    obtain ⟨e, he, q⟩ := List.mem_map.mp (pm.mem_iff.mp hv)
    obtain ⟨k, tk, h1, _⟩ := g e he
    exact ⟨k, tk, by rw [← q]; exact h1⟩
  have pk : (vs.map Builtin.Re.reRawOf).Perm (es.toList.map keyOf) := by
    have q := pm.map Builtin.Re.reRawOf
    rw [List.map_map] at q
    exact q
  refine wpAny_bind (wpAny_newList ?_ hsz)
  have hoL : (s1.heap.push (seqObj "list" vs.toArray 0)).get? s1.heap.objs.size = some (seqObj "list" vs.toArray 0) := Heap.get?_push_size _ rfl
  refine wpAny_bind (wpAny_holding (wpAny_call_entry slot_list_sort ⟨_, hoL, rfl⟩ entry_list_sort (SrtO.list_sort_ord SrtO.swo_int hoL hsz (fun h2 => SrtO.ints_sortable hI h2) fun out h1 h2 => ⟨_, rfl, ?_⟩) (args_list_sort _)))
  obtain ⟨a1, a2, a3⟩ := SrtO.ints_out hI h1 h2
  obtain ⟨c, hc⟩ := sortedHeap_at (vs := vs) (out := out.toArray) hoL
  have pn : (out.map SrtO.iv).Perm (es.toList.map keyOf) := a2.trans pk
  refine wpAny_pure ⟨_, rfl, hQ _ s1.heap.objs.size out.toArray c (out.map SrtO.iv) (fun b u e => ?_) g1 o1 hz hc a1 (lt_of_le_nodup _ a3 (pn.nodup_iff.mpr nd)) (fun k => by rw [pn.mem_iff, ← hm k]) ?_⟩
  · have q := k1 b u e
    have hlt := Heap.lt_size q
    show (sortedHeap (s1.heap.push (seqObj "list" vs.toArray 0)) s1.heap.objs.size vs out.toArray).get? b = some u
    rw [sortedHeap_old (Nat.ne_of_lt hlt) (by rw [size_push']; exact Nat.lt_succ_of_lt hlt)]
    exact Heap.get?_push_of_some _ q
  · rw [pn.length_eq, List.length_map, Array.length_toList]; exact hn
end
def rSortedSetB (w : World) : List V → Hp → VK → Prop := fun vs H Q => ∃ (a : Addr) (S : Int → Bool) (n : Nat), vs = [V.ref a] ∧ H a = some (SetO w a S n) ∧ n ≤ 4000 ∧
  ∀ (ns : List Int) (p : Addr), ns.Pairwise (· < ·) → (∀ k : Int, k ∈ ns ↔ S k = true) → ns.length = n → H p = none → Q (.ref p) (upd H p (.lst (ns.map V.int)))
section
variable {X : Cx}
theorem cr_sortedSetB (hc : X.calm = true) : CallR X (.builtin "sorted") (rSortedSetB X.w) := by
  intro pins s σ H vs us Q I r h
  obtain ⟨a, S, n, rfl, ha, h64, q⟩ := h
  have R := setO_get I ha
  rw [Vals.ref1 r]
  refine sorted_setB R (I.ok.hd hc) fun s' p out c ns k g o hp hg hi hs hm hl => ?_
  have hlen : (ns.map V.int).length ≤ sizeLine := by rw [List.length_map, hl, sizeLine_eq]; omega
  have hn : H p = none := I.hok.fresh hp
  have J : Inv X pins σ (upd H p (.lst (ns.map V.int))) { s with heap := s'.heap, gens := s'.gens, drawn := s'.drawn, toks := s'.toks } :=
    I.call (ch := []) (Un.laid k hp hn) (I.hok.laid k hp ⟨hlen, out.toList, c, vals_of_ints hi, hg⟩) (by rw [g]; exact I.bare) (fun _ z => nomatch z)
  have e : s' = { s with heap := s'.heap, gens := s'.gens, drawn := s'.drawn, toks := s'.toks } := by
    cases s'
    cases s
    cases o
    rfl
  rw [e]
  exact ⟨.ref p, _, J, rfl, q ns p hs hm hl hn⟩
end
end L2
namespace Mp
open PySem L2 PySem.Spec PyProof.Rows
/-! ## sorted(set(..)) of up to 4000 ints -/
/-- set(t), of a list or a tuple of ints -/
def rSetI2 (K : PySem.W.Frag) (w : World) : List V → Hp → VK → Prop := fun vs H Q => ∃ (p : Addr) (ns : List Int), vs = [V.ref p] ∧ (SqT K H p (ns.map V.int) ∨ SqL K H p (ns.map V.int)) ∧ ns.length ≤ 4000 ∧
  ∀ (a : Addr) (S : Int → Bool) (n : Nat), H a = none → (∀ k, S k = true ↔ k ∈ ns) → n ≤ ns.length → Q (.ref a) (upd H a (SetO w a S n))
section
variable {X : Cx}
theorem cr_setI2 (hc : X.calm = true) : CallR X (.type "set") (rSetI2 X.K X.w) := by
  intro pins s σ H vs us Q I r h
  obtain ⟨p, ns, rfl, hq, hl, q⟩ := h
  have hd := I.ok.hd hc
  have hb : ns.length + 1 < scanBound := by unfold scanBound; omega
  rw [Vals.ref1 r]
  rcases hq with hq | hq
  · obtain ⟨its, rv, pt, _⟩ := I.tuple hq
    exact call_set_tupI ns hd (show s.heap.IsTuple p its.toArray from pt) (ints_of_vals rv) hb fun h2 t2 c R hn kp => set_laid I q R hn kp
  · obtain ⟨its, rv, pl, _⟩ := I.list hq
    refine set_from_list ns hd pl.isList (ints_of_vals rv) hb fun s2 left => ?_
    obtain ⟨h2, t2, c, rfl, R, hn, kp⟩ := left
    exact set_laid I q R hn kp
end
def sortSet2Op (a : AV) (M : Mem) : Out AV := match (tupOf a).bind ints?, (lstOf M a).bind ints? with
  | some ns, _ => if ns.length ≤ 4000 then .ok (.fr ((sortU ns).map D.int)) M else .bad
  | none, some ns => if ns.length ≤ 4000 then .ok (.fr ((sortU ns).map D.int)) M else .bad
  | none, none => .bad
def sSortSet2 (f : SE) : SE := sOne sortSet2Op f
section
variable {G : Gm} {W Z : Addr → Prop} {φ : List Addr} {H : Hp} {M : Mem} {Q : VK} {E : XK} {v : V} {w : World}
theorem sortSet2_run {a : AV} (R : Rel G W Z φ M H) (r : SR G (Bar W Z) φ H a v) (h : Run G Z φ W H (sortSet2Op a M) Q E) : rSetI2 G.K w [v] H fun y H2 => rSortedSetB w [y] H2 Q := by
  have main : ∀ ns : List Int, (∃ p, v = .ref p ∧ (SqT G.K H p (ns.map V.int) ∨ SqL G.K H p (ns.map V.int))) → Run G Z φ W H (if ns.length ≤ 4000 then .ok (.fr ((sortU ns).map D.int)) M else .bad) Q E → rSetI2 G.K w [v] H fun y H2 => rSortedSetB w [y] H2 Q := fun ns ⟨p, e, hq⟩ h => by
    subst e
    split at h
    · rename_i h64
      refine ⟨p, ns, rfl, hq, by omega, fun a S n ha hS hn => ⟨a, S, n, rfl, upd_same, by omega, fun ms q hs hm _ hq => ?_⟩⟩
      have e : ms = sortU ns := sorted_lt_ext _ _ hs (sortU_lt ns) fun k => by rw [hm k, hS k, sortU_mem]
      subst e
      exact Run.new (R.laid0 ha) (Run.later (Ext.laid R ha) h) (RDs.of_ints _) q hq
    · exact h.elim
  unfold sortSet2Op at h
  split at h
  · rename_i ns e
    obtain ⟨p, rfl, h1⟩ := Rel.tupInts r e
    exact main ns ⟨p, rfl, .inl h1⟩ h
  · rename_i _ ns _ e
    obtain ⟨p, rfl, h1⟩ := R.ints r e
    exact main ns ⟨p, rfl, .inr h1⟩ h
  · exact h.elim
end
section
variable {X : Cx} {E : WX} {e : Expr} {f : SE} {pos p p2 q : Pos}
theorem ge_sortset2 (hc : X.calm = true) (he : GE X E e f) (hg : Gl X "sorted") (hm : X.mg "sorted" = none) (hg2 : Gl X "set") (hm2 : X.mg "set" = none) (hs : starEach [e] X.env = [(false, eval e X.env)])
    (hs2 : starEach [.Call (.Name "set" p2) [e] [] q] X.env = [(false, eval (.Call (.Name "set" p2) [e] [] q) X.env)]) : GE X E (.Call (.Name "sorted" p) [.Call (.Name "set" p2) [e] [] q] [] pos) (sSortSet2 f) :=
  PE.imp (pe_callB (cr_sortedSetB hc) hg hm boot_sorted (pa_cons (pe_callTy (cr_setI2 hc) hg2 hm2 PyProof.Rows.boot_set (pa_cons he pa_nil (hs := hs)) (he := hs)) pa_nil (hs := hs2)) (he := hs2)) fun σ H Q ⟨W, Z, φ, env, M, R, Er, h⟩ =>
    ⟨W, Z, φ, env, M, R, Er, (Run.bind h).imp fun v H1 ⟨W1, M1, x, _, R1, x1, r1, h2⟩ => sortSet2_run R1 r1.sr h2⟩
end
end Mp

set_option maxHeartbeats 4000000
namespace Mp
open PySem L2 PySem.Spec PyProof.Rows
section
variable {β : Type} {kx : Exc → Mem → Out β} {res : Out β} {k : AV → Mem → Out β}
theorem e_sortset2 {f : SE} {env : Env} {M : Mem} (h : el (f env M) (fun x M1 => el (sortSet2Op x M1) k kx) kx = res) : el (sSortSet2 f env M) k kx = res := by
  rw [← h]
  exact el_bind _ _ _ _
end
end Mp

set_option maxHeartbeats 4000000
namespace Mp
open PySem L2 PySem.Spec PyProof.Rows
/-! ## sorted(set(..)) of pairs of ints from 0 on -/
theorem sortedN_ext {α : Type} {le : α → α → Prop} (anti : ∀ a b, le a b → le b a → a = b) : ∀ (a b : List α), a.Pairwise le → b.Pairwise le → a.Nodup → b.Nodup → (∀ k, k ∈ a ↔ k ∈ b) → a = b
  | [], [], _, _, _, _, _ => rfl
  | [], y :: b, _, _, _, _, h => absurd ((h y).mpr List.mem_cons_self) (by simp)
  | x :: a, [], _, _, _, _, h => absurd ((h x).mp List.mem_cons_self) (by simp)
  | x :: a, y :: b, ha, hb, na, nb, h => by
    rw [List.pairwise_cons] at ha hb
    rw [List.nodup_cons] at na nb
    have e : x = y := by
      rcases List.mem_cons.mp ((h x).mp List.mem_cons_self) with e | e
      · exact e
      · rcases List.mem_cons.mp ((h y).mpr List.mem_cons_self) with e2 | e2
        · exact e2.symm
        · exact anti x y (ha.1 y e2) (hb.1 x e)
    subst e
    rw [sortedN_ext anti a b ha.2 hb.2 na.2 nb.2 fun k => ?_]
    constructor
    · intro hk
      rcases List.mem_cons.mp ((h k).mp (.tail _ hk)) with e | e
      · subst e; exact absurd hk na.1
      · exact e
    · intro hk
      rcases List.mem_cons.mp ((h k).mpr (.tail _ hk)) with e | e
      · subst e; exact absurd hk nb.1
      · exact e
theorem nodup_eraseDupsL : ∀ (n : Nat) (ns : List (List Int)), ns.length ≤ n → ns.eraseDups.Nodup
  | _, [], _ => List.nodup_nil
  | 0, x :: r, h => by rw [List.length_cons] at h; omega
  | n + 1, x :: r, h => by
    rw [List.length_cons] at h
    rw [List.eraseDups_cons, List.nodup_cons]
    refine ⟨fun hm => ?_, nodup_eraseDupsL n _ (Nat.le_trans (List.length_filter_le _ _) (by omega))⟩
    have := List.mem_eraseDups.mp hm
    rw [List.mem_filter] at this
    simp at this
def sortP (L : List (List Int)) : List (List Int) := L.eraseDups.mergeSort leI
theorem leI_trans (a b c : List Int) : leI a b = true → leI b c = true → leI a c = true := fun h1 h2 => decide_eq_true (List.le_trans (of_decide_eq_true h1) (of_decide_eq_true h2))
theorem leI_total (a b : List Int) : (leI a b || leI b a) = true := by
  rcases List.le_total a b with h | h
  · show (decide (a ≤ b) || _) = true
    rw [decide_eq_true h]; rfl
  · show (_ || decide (b ≤ a)) = true
    rw [decide_eq_true h, Bool.or_true]
theorem leI_anti (a b : List Int) (h1 : leI a b = true) (h2 : leI b a = true) : a = b := List.le_antisymm (of_decide_eq_true h1) (of_decide_eq_true h2)
theorem sortP_mem {L : List (List Int)} {k : List Int} : k ∈ sortP L ↔ k ∈ L := by
  unfold sortP
  rw [List.mem_mergeSort, List.mem_eraseDups]
theorem sortP_asc (L : List (List Int)) : (sortP L).Pairwise fun a b => leI a b = true := List.pairwise_mergeSort leI_trans leI_total _
theorem sortP_nodup (L : List (List Int)) : (sortP L).Nodup := (List.mergeSort_perm _ _).nodup_iff.mpr (nodup_eraseDupsL _ _ (Nat.le_refl _))
/-- whatever ascends, with no item twice and the same items, is it -/
theorem sortP_is {L A : List (List Int)} (h1 : A.Pairwise fun a b => leI a b = true) (h2 : A.Nodup) (h : ∀ k, k ∈ A ↔ k ∈ L) : A = sortP L :=
  sortedN_ext leI_anti _ _ h1 (sortP_asc L) h2 (sortP_nodup L) fun k => by rw [h, sortP_mem]
def pairB (c : List Int) : Bool := match c with
  | [a, b] => decide (0 ≤ a) && decide (0 ≤ b)
  | _ => false
theorem pairB_ok {c : List Int} (h : pairB c = true) : ∃ a b, c = [a, b] ∧ 0 ≤ a ∧ 0 ≤ b := by
  unfold pairB at h
  split at h
  · rename_i a b
    rw [Bool.and_eq_true] at h
    exact ⟨a, b, rfl, of_decide_eq_true h.1, of_decide_eq_true h.2⟩
  · cases h
def sortSet3Op (a : AV) (M : Mem) : Out AV := match (lstOf M a).bind tupsI? with
  | some (c :: L) => if ((c :: L).all pairB && decide ((c :: L).length < 64)) = true then .ok (.fr ((sortP (c :: L)).map ti)) M else .bad
  | _ => sortSet2Op a M
def sSortSet3 (f : SE) : SE := sOne sortSet3Op f
theorem zip_addr {G : Gm} {B : Addr → Prop} {H : Hp} : ∀ {zs : List (V × List Int)}, (∀ z ∈ zs, RD G B H (ti z.2) z.1) → ∃ ks : List (Addr × List Int), zs = ks.map fun p => (V.ref p.1, p.2)
  | [], _ => ⟨[], rfl⟩
  | (v, c) :: zs, h => by
    obtain ⟨ks, e⟩ := zip_addr fun z hz => h z (.tail _ hz)
    have h1 : RD G B H (.tup (c.map .int)) v := h (v, c) List.mem_cons_self
    cases h1 with
    | @tup a _ _ h2 h3 => exact ⟨(a, c) :: ks, by rw [List.map_cons, ← e]⟩
theorem sq_of {G : Gm} {B : Addr → Prop} {H : Hp} {a : Addr} {c : List Int} (h : RD G B H (ti c) (.ref a)) : SqT G.K H a (c.map V.int) := by
  have h1 : RD G B H (.tup (c.map .int)) (.ref a) := h
  cases h1 with
  | tup h2 h3 =>
    rw [h3.ints] at h2
    exact h2.sq
theorem code_le {B : Int} {p q : List Int} (hp : pairB p = true) (hq : pairB q = true) (b1 : TS.Bd B p) (b2 : TS.Bd B q) (h : TS.code B p ≤ TS.code B q) : leI p q = true := by
  obtain ⟨a, b, rfl, _, _⟩ := pairB_ok hp
  obtain ⟨c, d, rfl, _, _⟩ := pairB_ok hq
  have h1 := code_lex b1 b2 h
  refine decide_eq_true ?_
  rw [List.cons_le_cons_iff]
  rcases h1 with h1 | ⟨rfl, h1⟩
  · exact .inl h1
  · refine .inr ⟨rfl, ?_⟩
    rw [List.cons_le_cons_iff]
    rcases Int.lt_or_eq_of_le h1 with h2 | rfl
    · exact .inl h2
    · exact .inr ⟨rfl, List.le_refl _⟩
theorem bd_ex : ∀ L : List (List Int), (∀ c ∈ L, pairB c = true) → ∃ B : Int, ∀ c ∈ L, TS.Bd B c
  | [], _ => ⟨0, fun c h => nomatch h⟩
  | x :: L, h => by
    obtain ⟨B, hB⟩ := bd_ex L fun c hc => h c (.tail _ hc)
    obtain ⟨a, b, rfl, ha, hb⟩ := pairB_ok (h x List.mem_cons_self)
    refine ⟨max B (max (a + 1) (b + 1)), fun c hc m hm => ?_⟩
    rcases List.mem_cons.mp hc with rfl | hc
    · simp only [List.mem_cons, List.not_mem_nil, or_false] at hm
      rcases hm with rfl | rfl <;> omega
    · have := hB c hc m hm
      omega
section
variable {G : Gm} {W Z : Addr → Prop} {φ : List Addr} {H : Hp} {M : Mem} {Q : VK} {E : XK} {v : V} {P : Program} {w : World}
theorem sortSet3_run {a : AV} (R : Rel G W Z φ M H) (r : SR G (Bar W Z) φ H a v) (h : Run G Z φ W H (sortSet3Op a M) Q E) :
    (rSetOfT G.K P w [v] H fun y H2 => rSortedT G.K P w [y] H2 Q) ∨ (rSetI2 G.K w [v] H fun y H2 => rSortedSetB w [y] H2 Q) := by
  unfold sortSet3Op at h
  split at h
  · rename_i c0 L0 e
    left
    split at h
    · rename_i hc
      rw [Bool.and_eq_true] at hc
      obtain ⟨xs, e1, e2⟩ := Option.bind_eq_some_iff.mp e
      have e3 := tupsI_ok e2
      generalize hLL : c0 :: L0 = L at *
      subst e3
      obtain ⟨p, us, rfl, hq, hr, _⟩ := R.lst r e1
      obtain ⟨zs, z1, z2, z3⟩ := zip_rds hr
      obtain ⟨ks, rfl⟩ := zip_addr z3
      rw [List.map_map] at z1 z2
      have z1 : ks.map (fun p => V.ref p.1) = us := z1
      have z2 : ks.map (·.2) = L := z2
      have z3 : ∀ q ∈ ks, RD G (Bar W Z) H (ti q.2) (.ref q.1) := fun q hq => z3 (V.ref q.1, q.2) (List.mem_map.mpr ⟨q, hq, rfl⟩)
      have hP : ∀ q ∈ ks, pairB q.2 = true := fun q hq => List.all_eq_true.mp hc.1 q.2 (by rw [← z2]; exact List.mem_map.mpr ⟨q, hq, rfl⟩)
      have hlen : ks.length < 64 := by
        have := of_decide_eq_true hc.2
        rw [← z2, List.length_map] at this
        exact this
      refine ⟨p, ks, rfl, by rw [z1]; exact hq, fun q hq => sq_of (z3 q hq), hlen, fun s LL hs hsub hall => ?_⟩
      have hsubP : ∀ c ∈ LL.map (·.2), pairB c = true := fun c hc => by
        obtain ⟨q, hq, rfl⟩ := List.mem_map.mp hc
        exact hP q (hsub q hq)
      obtain ⟨B, hB⟩ := bd_ex _ hsubP
      have x := Ext.laid (o := SetTO P w s LL) R hs
      have z4 : ∀ q ∈ LL, RD G (Bar W Z) (upd H s (SetTO P w s LL)) (ti q.2) (.ref q.1) := fun q hq => RD.ext x.bar (z3 q (hsub q hq))
      refine ⟨s, LL, 2, B, rfl, upd_same, fun q hq => sq_of (z4 q hq), by decide, fun q hq => ?_, fun L' p' hperm hnd hl hpw hp' => ?_⟩
      · have h1 := hP q (hsub q hq)
        obtain ⟨a, b, e, _, _⟩ := pairB_ok h1
        exact ⟨by rw [e]; rfl, hB _ (List.mem_map.mpr ⟨q, hq, rfl⟩)⟩
      · have hmem : ∀ q ∈ L', q ∈ LL := fun q hq => hperm.mem_iff.mp hq
        have eS : L'.map (·.2) = sortP L := by
          refine sortP_is ?_ hnd fun k => ?_
          · rw [List.pairwise_map]
            refine List.Pairwise.imp_of_mem (fun {q r} hq hr h => ?_) hpw
            exact code_le (hP q (hsub q (hmem q hq))) (hP r (hsub r (hmem r hr))) (hB _ (List.mem_map.mpr ⟨q, hmem q hq, rfl⟩)) (hB _ (List.mem_map.mpr ⟨r, hmem r hr, rfl⟩)) h
          · rw [← z2]
            constructor
            · intro hk
              obtain ⟨q, hq, rfl⟩ := List.mem_map.mp hk
              exact List.mem_map.mpr ⟨q, hsub q (hmem q hq), rfl⟩
            · intro hk
              obtain ⟨q, hq, rfl⟩ := List.mem_map.mp hk
              have := hall q hq
              exact (hperm.map (·.2)).mem_iff.mpr this
        rw [← eS] at h
        have z5 : RDs G (Bar W Z) (upd H s (SetTO P w s LL)) ((L'.map (·.2)).map ti) (L'.map fun q => V.ref q.1) := by
          have := rds_zip (G := G) (B := Bar W Z) (H := upd H s (SetTO P w s LL)) (zs := L'.map fun q => (V.ref q.1, q.2)) fun z hz => by
            obtain ⟨q, hq, rfl⟩ := List.mem_map.mp hz
            exact z4 q (hmem q hq)
          have e1 : (L'.map fun q => (V.ref q.1, q.2)).map (·.2) = L'.map (·.2) := by rw [List.map_map]; rfl
          have e2 : (L'.map fun q => (V.ref q.1, q.2)).map (·.1) = L'.map fun q => V.ref q.1 := by rw [List.map_map]; rfl
          rw [e1, e2] at this
          exact this
        exact Run.new (R.laid0 hs) (Run.later x h) z5 p' hp'
    · exact h.elim
  · exact .inr (sortSet2_run R r h)
end
section
variable {X : Cx} {E : WX} {e : Expr} {f : SE} {pos p p2 q : Pos}
theorem ge_sortset3 (hu : X.A.units + 65 < cLine) (hc : X.calm = true) (he : GE X E e f) (hg : Gl X "sorted") (hm : X.mg "sorted" = none) (hg2 : Gl X "set") (hm2 : X.mg "set" = none) (hs : starEach [e] X.env = [(false, eval e X.env)])
    (hs2 : starEach [.Call (.Name "set" p2) [e] [] q] X.env = [(false, eval (.Call (.Name "set" p2) [e] [] q) X.env)]) : GE X E (.Call (.Name "sorted" p) [.Call (.Name "set" p2) [e] [] q] [] pos) (sSortSet3 f) :=
  PE.imp (pe_callB ((cr_sortedT hc).or (cr_sortedSetB hc)) hg hm boot_sorted (pa_cons (pe_callTy ((cr_setOfT hc (by omega)).or (cr_setI2 hc)) hg2 hm2 PyProof.Rows.boot_set (pa_cons he pa_nil (hs := hs)) (he := hs)) pa_nil (hs := hs2)) (he := hs2)) fun σ H Q ⟨W, Z, φ, env, M, R, Er, h⟩ =>
    ⟨W, Z, φ, env, M, R, Er, (Run.bind h).imp fun v H1 ⟨W1, M1, x, _, R1, x1, r1, h2⟩ => by
      rcases sortSet3_run R1 r1.sr h2 with h3 | h3
      · obtain ⟨l, ks, e1, e2, e3, e4, q⟩ := h3
        exact .inl ⟨l, ks, e1, e2, e3, e4, fun a L ha h5 h6 => .inl (q a L ha h5 h6)⟩
      · obtain ⟨p, ns, e1, e2, e3, q⟩ := h3
        exact .inr ⟨p, ns, e1, e2, e3, fun a S n ha h5 h6 => .inr (q a S n ha h5 h6)⟩⟩
end
section
variable {β : Type} {kx : Exc → Mem → Out β} {res : Out β} {k : AV → Mem → Out β}
theorem e_sortset3 {f : SE} {env : Env} {M : Mem} (h : el (f env M) (fun x M1 => el (sortSet3Op x M1) k kx) kx = res) : el (sSortSet3 f env M) k kx = res := by
  rw [← h]
  exact el_bind _ _ _ _
theorem ints_tis {c : List Int} {L : List (List Int)} : ((c :: L).map ti).head? = some (ti c) := rfl
theorem tups_map : ∀ L : List (List Int), tupsI? (L.map ti) = some L
  | [] => rfl
  | c :: L => by
    show (match tupI? (ti c), tupsI? (L.map ti) with
      | some a, some l => some (a :: l)
      | _, _ => none) = _
    rw [tups_map L, show tupI? (ti c) = some c from ints_map c]
theorem sortSet3_l {L : List (List Int)} {M : Mem} (h0 : L ≠ []) (h1 : ∀ c ∈ L, pairB c = true) (h2 : L.length < 64) : sortSet3Op (.d (.lst (L.map ti))) M = .ok (.fr ((sortP L).map ti)) M := by
  cases L with
  | nil => exact absurd rfl h0
  | cons c L =>
    unfold sortSet3Op
    have e : (lstOf M (.d (.lst ((c :: L).map ti)))).bind tupsI? = some (c :: L) := tups_map (c :: L)
    rw [e]
    dsimp only
    rw [if_pos]
    rw [List.all_eq_true.mpr h1, decide_eq_true h2]
    rfl
end
end Mp

set_option maxHeartbeats 4000000
namespace Mp
open PySem L2 PySem.Spec PyProof.Rows
/-! ## constants of the module that are tuples -/
/-- a datum in the frozen part -/
def KD (K : PySem.W.Frag) (d : D) (u : Value) : Prop := ∃ v : V, RelV v u ∧ ∀ (mg : Str → Option Value) (B : Addr → Prop) (H : Hp), RD ⟨K, mg⟩ B H d v
def KDs (K : PySem.W.Frag) (ds : List D) (us : List Value) : Prop := ∃ vs : List V, Vals vs us ∧ ∀ (mg : Str → Option Value) (B : Addr → Prop) (H : Hp), RDs ⟨K, mg⟩ B H ds vs
theorem kd_int {K : PySem.W.Frag} {n : Int} {t : Tok} : KD K (.int n) (.int n t) := ⟨.int n, ⟨t, rfl⟩, fun _ _ _ => .int n⟩
theorem kd_str {K : PySem.W.Frag} {n : Str} {t : Tok} : KD K (.str n) (.str n t) := ⟨.str n, ⟨t, rfl⟩, fun _ _ _ => .str n⟩
theorem kds_nil {K : PySem.W.Frag} : KDs K [] [] := ⟨[], .nil, fun _ _ _ => .nil⟩
theorem kds_cons {K : PySem.W.Frag} {d : D} {ds : List D} {u : Value} {us : List Value} (h : KD K d u) (hs : KDs K ds us) : KDs K (d :: ds) (u :: us) := by
  obtain ⟨v, r, e⟩ := h
  obtain ⟨vs, rs, es⟩ := hs
  exact ⟨v :: vs, .cons r rs, fun mg B H => .cons (e mg B H) (es mg B H)⟩
theorem kd_tup {K : PySem.W.Frag} {a : Addr} {oc : Value} {od : Option Addr} {its : Array Value} {n : Nat} {sl : Array (Option Value)} {ds : List D} (kt : ktOn = true) (l : K.lookup a = some ⟨oc, od, .seq its n, sl⟩) (hc : oc = .type "tuple") (hz : its.size ≤ 1000) (hs : KDs K ds its.toList) : KD K (.tup ds) (.ref a) := by
  obtain ⟨vs, rs, es⟩ := hs
  exact ⟨.ref a, rfl, fun mg B H => .tup (.inr ⟨kt, _, its, n, l, hc, rfl, Nat.le_trans hz (by decide), rs⟩) (es mg B H)⟩
theorem Cst.of_kd {K : PySem.W.Frag} {mg : Str → Option Value} {x : Str} {d : D} {u : Value} (h : mg x = some u) (k : KD K d u) : Cst ⟨K, mg⟩ x d := by
  obtain ⟨v, r, e⟩ := k
  exact ⟨⟨u, v, h, r, fun B H => e mg B H⟩⟩
end Mp

set_option maxHeartbeats 4000000
namespace Mp
open PySem L2 PySem.Spec PyProof.Rows
/-! ## sum of a tuple of ints -/
section
variable {prog : Program} {w : World} {A : Around} {E : Value → Shared → Prop} {s : Shared} {l : Addr} {xs : Array (Int × Tok)}
theorem sum_intTup {Q : Value → Shared → Prop} (hh : A.handled = none) (hl : s.heap.IsTuple l (intItems xs))
    (h : ∀ h' tk t', (∀ b o, s.heap.get? b = some o → h'.get? b = some o) → Q (.int (preSum (numAt xs) xs.size) t') { s with heap := h', toks := tk }) :
    wpAny (model prog w) A (call (.builtin "sum") [.ref l]) Q E s := by
  have hlt : l < s.heap.objs.size := by obtain ⟨_, e, _⟩ := hl; exact Heap.lt_size e
  refine call_sum_walkG (wpAny_pyIter_tuple hl ?_)
  refine ⟨_, [_, l], [_], _, _, _, numAt xs, rfl, Walks.tuple (A := A.in1) hh _ l (Nat.ne_of_lt hlt) (intItems xs), ⟨⟨_, Heap.get?_push_size _ rfl, rfl, rfl⟩, hl.push _⟩, fun b hb => ?_, (fun _ _ => intItems_at), fun h' tk t' hk => ?_⟩
  · show b < (s.heap.push _).objs.size
    rw [Heap.size_push]
    rcases List.mem_cons.mp hb with rfl | hb
    · exact Nat.lt_succ_self _
    · rcases List.mem_cons.mp hb with rfl | hb
      · exact Nat.lt_succ_of_lt hlt
      · cases hb
  · have := h h' tk t' (fun b o e => by
      refine hk b o (fun hm => ?_) (Heap.get?_push_of_some _ e)
      rcases List.mem_cons.mp hm with e1 | hm
      · exact absurd (e1 ▸ Heap.lt_size e) (Nat.lt_irrefl _)
      · cases hm)
    simpa [intItems] using this
end
def rSumT (K : PySem.W.Frag) : List V → Hp → VK → Prop := fun vs H Q => ∃ (a : Addr) (ns : List Int), vs = [V.ref a] ∧ SqT K H a (ns.map V.int) ∧ Q (.int ns.sum) H
theorem cr_sumT {X : Cx} (hc : X.calm = true) : CallR X (.builtin "sum") (rSumT X.K) := by
  intro pins s σ H vs us Q I r h
  obtain ⟨a, ns, rfl, hs, q⟩ := h
  obtain ⟨its, rv, ht, _⟩ := I.tuple hs
  rw [Vals.ref1 r]
  have hi := rv.ints
  obtain ⟨xs, e⟩ := hi.allInts.items
  have hn : numsOf (intItems xs).toList = ns := by rw [← e]; exact hi.numsOf
  rw [nums_intItems] at hn
  rw [e] at ht
  refine sum_intTup (I.ok.hd hc) ht fun h' tk t' hk => ?_
  rw [preSum_eq, List.take_of_length_le (by simp), hn]
  exact ⟨.int _, H, I.kept hk, ⟨_, rfl⟩, q⟩
def sum2Op : List AV → Mem → Out AV
  | [a], M => match (tupOf a).bind ints? with
    | some ns => .ok (.d (.int ns.sum)) M
    | _ => sumOp [a] M
  | avs, M => sumOp avs M
section
variable {G : Gm} {W Z B : Addr → Prop} {φ : List Addr} {H : Hp} {M : Mem} {Q : VK} {E : XK} {avs : List AV} {vs : List V}
theorem sum2_run (R : Rel G W Z φ M H) (r : SRs G (Bar W Z) φ H avs vs) (h : Run G Z φ W H (sum2Op avs M) Q E) : rSumT G.K vs H Q ∨ rSum G.K vs H Q := by
  unfold sum2Op at h
  split at h
  · split at h
    · rename_i ns e
      left
      obtain ⟨v, rfl, r1⟩ := r.one
      obtain ⟨p, rfl, h1⟩ := Rel.tupInts r1 e
      exact ⟨p, ns, rfl, h1, Run.ok R h (.int _) (fun _ z => by cases z)⟩
    · exact .inr (sum_run R r h)
  · exact .inr (sum_run R r h)
end
section
variable {X : Cx} {E : WX} {e : Expr} {es : List Expr} {l : SL} {pos p : Pos}
theorem gc_sum2 (hc : X.calm = true) (hl : GL X E (e :: es) l) (he : starEach (e :: es) X.env = (false, eval e X.env) :: starEach es X.env) (hpl : (backTo pos (starEach es X.env)).any (·.1) = false) (hg : Gl X "sum") (hm : X.mg "sum" = none) : GE X E (.Call (.Name "sum" p) (e :: es) [] pos) (sArgs sum2Op l) :=
  ge_bi (fun h => pe_callB ((cr_sumT hc).or (cr_sum hc)) hg hm boot_sum h (he := he) (hpl := hpl)) hl fun W Z φ M H avs vs Q E R r h => sum2_run R r h
end
section
variable {β : Type} {kx : Exc → Mem → Out β} {res : Out β} {k : AV → Mem → Out β} {M : Mem}
theorem sum2_t {ns : List Int} : sum2Op [.d (ti ns)] M = .ok (.d (.int ns.sum)) M := by
  show (match (some (ns.map D.int)).bind ints? with
    | some ns => Out.ok (AV.d (.int ns.sum)) M
    | _ => sumOp [.d (ti ns)] M) = _
  rw [Option.bind_some, ints_map]
theorem sum2_l {ns : List Int} : sum2Op [.d (.lst (ns.map .int))] M = .ok (.d (.int ns.sum)) M := by
  show (match (some (ns.map D.int)).bind ints? with
    | some ns => Out.ok (AV.d (.int ns.sum)) M
    | none => .bad) = _
  rw [Option.bind_some, ints_map]
end
end Mp

set_option maxHeartbeats 4000000
namespace Mp
open PySem L2 PySem.Spec PyProof.Rows
/-! ## functions that return a dict of ints -/
def VRk (G : Gm) (W Z : Addr → Prop) (φ : List Addr) (H₀ H : Hp) (M : Mem) (kvs : List (Int × D)) (v : V) : Prop :=
  ∃ p us, v = .ref p ∧ H₀ p = none ∧ H p = some (.dK (List.zip (kvs.map fun e => Sum.inl e.1) us)) ∧ ¬ Bar W Z p ∧ RDs G (add1 (Bar W Z) p) H (kvs.map (·.2)) us ∧ Rel G W (add1 Z p) φ M H
abbrev OutK := Out (List (Int × D))
abbrev RunK (G : Gm) (Z : Addr → Prop) (φ : List Addr) (W : Addr → Prop) (H : Hp) (r : OutK) (Q : VK) (E : XK) : Prop :=
  RunG (fun W' H' M' kvs v => VRk G W' Z φ H H' M' kvs v) G Z φ W H r Q E
abbrev SEk := Env → Mem → OutK
def rdK (G : Gm) (f : SEk) (E : WX) : TE := fun σ H Q => ∃ W Z φ env M, Rel G W Z φ M H ∧ EnvR G (Bar W Z) φ H env σ ∧ RunK G Z φ W H (f env M) Q fun c d H' => E c d σ H'
abbrev GEk (X : Cx) (E : WX) (e : Expr) (f : SEk) : Prop := PE X e (rdK (gm X) f E)
section
variable {G : Gm} {W W1 Z : Addr → Prop} {φ ψ : List Addr} {H H₀ H1 : Hp} {M : Mem} {Q : VK} {E : XK}
theorem VRk.back {H' : Hp} {W' : Addr → Prop} {M' : Mem} {kvs : List (Int × D)} {v : V} (r : VRk G W' Z φ H1 H' M' kvs v) (x : ∀ a, H a ≠ none → H1 a ≠ none) : VRk G W' Z φ H H' M' kvs v := by
  obtain ⟨p, us, e, h0, h⟩ := r
  exact ⟨p, us, e, Decidable.byContradiction fun n => x p n h0, h⟩
theorem RunK.later {r : OutK} (x : Ext W H W1 H1) (h : RunK G Z φ W H r Q E) : RunK G Z φ W1 H1 r Q E := by
  cases r with
  | ok a M' => exact fun W' H' v R y z => h W' H' v R (x.trans y) (z.back x.live)
  | exc e M' => exact fun W' H' c d R y z => h W' H' c d R (x.trans y) z
  | bad => exact h
theorem RunK.bind {α β : Type} {R : (Addr → Prop) → Hp → Mem → α → β → Prop} {r : Out α} {k : α → Mem → OutK} (h : RunK G Z φ W H (r.bind k) Q E) :
    RunG R G Z φ W H r (fun v H1 => ∃ W1 M1 a, r = .ok a M1 ∧ Rel G W1 Z φ M1 H1 ∧ Ext W H W1 H1 ∧ R W1 H1 M1 a v ∧ RunK G Z φ W1 H1 (k a M1) Q E) E :=
  RunG.bind (R2 := fun W H W' H' M' kvs v => VRk G W' Z φ H H' M' kvs v) h fun _ _ _ _ x q => RunK.later x q
/-- a new dict becomes a cell -/
theorem thawK {kvs : List (Int × D)} {v : V} (R : Rel G W Z φ M H) (r : VRk G W Z φ H₀ H M kvs v) (x : ∀ a, H₀ a ≠ none → H a ≠ none) :
    ∃ p, v = .ref p ∧ H₀ p = none ∧ Rel G (add1 W p) Z (φ ++ [p]) (M ++ [some (.k kvs)]) H ∧ ∀ a o, H₀ a = some o → ¬ W a → ¬ add1 W p a := by
  obtain ⟨p, us, rfl, h0, hp, nb, rd, R2⟩ := r
  have hnp : ∀ i : Nat, φ[i]? ≠ some p := fun i e => (R2.sep i p e).2 (.inr rfl)
  have hb : ∀ a, Bar (add1 W p) Z a → Bar W (add1 Z p) a := fun a z => by
    rcases z with (z | z) | z
    · exact .inl z
    · exact .inr (.inr z)
    · exact .inr (.inl z)
  refine ⟨p, rfl, h0, ⟨by simp [R.len], ?_, fun a z => z.elim (R.wt a) fun z => by subst z; rw [hp]; simp, R.zt, fun i q e => ?_, fun i q c e1 e2 => ?_⟩, fun a o e n z => z.elim n fun z => by subst z; rw [h0] at e; cases e⟩
  · rw [List.nodup_append]
    refine ⟨R.nd, by simp, fun a ha b hb e => ?_⟩
    obtain ⟨i, hi⟩ := List.getElem?_of_mem ha
    simp at hb
    subst hb; subst e
    exact hnp i hi
  · by_cases hi : i < φ.length
    · rw [List.getElem?_append_left hi] at e
      exact R.sep i q e
    · rw [List.getElem?_append_right (by omega)] at e
      have hq : q = p := by
        cases h : i - φ.length with
        | zero => rw [h] at e; simpa using e.symm
        | succ k => rw [h] at e; simp at e
      subst hq
      exact ⟨by rw [hp]; simp, fun z => nb (.inr z)⟩
  · by_cases hi : i < φ.length
    · rw [List.getElem?_append_left hi] at e1
      rw [List.getElem?_append_left (by rw [← R.len]; exact hi)] at e2
      obtain ⟨w, r⟩ := R2.cell i q c e1 e2
      exact ⟨.inl w, r.ext (Ext.less hb) rfl⟩
    · rw [List.getElem?_append_right (by omega)] at e1
      rw [List.getElem?_append_right (by rw [← R.len]; omega), ← R.len] at e2
      cases h : i - φ.length with
      | zero =>
        rw [h] at e1 e2
        simp at e1 e2
        subst e1; subst e2
        refine ⟨.inr rfl, us, hp, rd.less fun a z => ?_⟩
        rcases z with (z | z) | z
        · exact .inl (.inl z)
        · exact .inr z
        · exact .inl (.inr z)
      | succ k => rw [h] at e1; simp at e1
/-- what leaves a def -/
theorem retk_run {W' : Addr → Prop} {H' : Hp} {M' : Mem} {i : Nat} {v : V} {kvs : List (Int × D)} (hl : φ.length = M.length) (f : Fin G Z φ W H M' W' ψ H') (r : VR G W' Z (φ ++ ψ) H H' M' (.cell i) v) (hi : ¬ i < M.length) (e1 : M'[i]? = some (some (.k kvs)))
    (h : RunK G Z φ W H (.ok kvs (M'.take M.length)) Q E) : Q v H' := by
  obtain ⟨p, e, rfl⟩ := r
  obtain ⟨w, us, hp, rd⟩ := f.rel.cell i p _ e e1
  have hs := f.rel.sep i p e
  have hnew : H p = none := by
    refine f.new p ?_
    rw [List.getElem?_append_right (by rw [hl]; omega)] at e
    exact List.mem_of_getElem? e
  let W2 : Addr → Prop := fun a => W' a ∧ a ≠ p
  have ls : ∀ a, add1 (Bar W2 Z) p a → Bar W' Z a := fun a z => by
    rcases z with (z | z) | z
    · exact .inl z.1
    · exact .inr z
    · subst z; exact .inl w
  have hnp : ∀ j : Nat, φ[j]? ≠ some p := fun j ej => by
    have hj := (List.getElem?_eq_some_iff.mp ej).1
    have e2 : (φ ++ ψ)[j]? = some p := by rw [List.getElem?_append_left hj]; exact ej
    have hk := (List.getElem?_eq_some_iff.mp e).1
    have := (List.getElem?_inj (l := φ ++ ψ) (i := j) (j := i) (by rw [List.length_append]; omega) f.rel.nd).mp (e2.trans e.symm)
    omega
  have R1 : Rel G W' Z φ (M'.take M.length) H' := f.rel.dropTo hl
  have x1 : Ext W' H' W2 H' := Ext.less fun a z => z.1
  have R2 : Rel G W2 (add1 Z p) φ (M'.take M.length) H' := by
    refine ⟨R1.len, R1.nd, fun a z => R1.wt a z.1, fun a z => z.elim (R1.zt a) fun z => by subst z; rw [hp]; simp, fun j q ej => ⟨(R1.sep j q ej).1, fun z => z.elim (R1.sep j q ej).2 fun z => by subst z; exact hnp j ej⟩, fun j q c ej ec => ?_⟩
    obtain ⟨wq, r⟩ := R1.cell j q c ej ec
    have hq : q ≠ p := fun z => by subst z; exact hnp j ej
    refine ⟨⟨wq, hq⟩, r.ext (Ext.less fun a z => ?_) rfl⟩
    rcases z with z | z | z
    · exact .inl z.1
    · exact .inr z
    · subst z; exact .inl w
  exact h W2 H' (.ref p) R2.unbar (f.ext.trans x1) ⟨p, us, rfl, hnew, hp, fun z => z.elim (fun z => z.2 rfl) hs.2, rd.less ls, R2⟩
end
def fnRunK (np n : Nat) (b : SS) (avs : List AV) (M : Mem) : OutK :=
  if avs.length = np then match b (initEnv n avs) M with
    | .ok (.ret (.cell i)) M' => if i < M.length then .bad else match M'[i]? with
      | some (some (.k kvs)) => .ok kvs (M'.take M.length)
      | _ => .bad
    | .exc e M' => .exc e (M'.take M.length)
    | _ => .bad
  else .bad
def spOfK (G : Gm) (F : List AV → Mem → OutK) : Sp := fun vs H Q E => ∃ W Z φ M avs, Rel G W Z φ M H ∧ SRs G (Bar W Z) φ H avs vs ∧ RunK G Z φ W H (F avs M) Q E
structure CaldK (X : Cx) (k : Nat) (x : Str) (F : List AV → Mem → OutK) : Prop where
  ex : ∃ f fd ps, X.mg x = some (.ref f) ∧ PySem.W.keepIn X.K (.ref f) = true ∧ Binds X.K fd ps [] ∧ FnOk X.prog X.w X.K X.mg X.base (L2.CX X.prog X.w) k f fd ps (spOfK (gm X) F)
structure CalDK (P : Program) (w : World) (K : PySem.W.Frag) (mg : Str → Option Value) (base : Heap) (k : Nat) (x : Str) (F : List AV → Mem → OutK) : Prop where
  ex : ∃ f fd ps, mg x = some (.ref f) ∧ PySem.W.keepIn K (.ref f) = true ∧ Binds K fd ps [] ∧ FnOk P w K mg base (L2.CX P w) k f fd ps (spOfK ⟨K, mg⟩ F)
theorem CalDK.cald {X : Cx} {k : Nat} {x : Str} {F : List AV → Mem → OutK} (c : CalDK X.prog X.w X.K X.mg X.base k x F) : CaldK X k x F := ⟨c.ex⟩
theorem CalDK.mono {P : Program} {w : World} {K : PySem.W.Frag} {mg : Str → Option Value} {base : Heap} {j k : Nat} {x : Str} {F : List AV → Mem → OutK} (c : CalDK P w K mg base j x F) (h : j ≤ k) : CalDK P w K mg base k x F :=
  let ⟨f, fd, ps, h1, h2, h3, h4⟩ := c.ex
  ⟨f, fd, ps, h1, h2, h3, h4.mono h⟩
section
variable {P : Program} {w : World} {K : PySem.W.Frag} {mg : Str → Option Value} {base : Heap} {x : Str} {st : Stmt} {f : Addr} {fd : FuncData} {N ps : List Str} {k : Nat} {b : SS}
theorem fn_okK (F : Fun K x x st f fd) (S : FnScope N ps (defScope st))
    (body : ∀ (cdv : Value) (A : Around) (outer : List PySem.Env) (s : Shared) (H : Hp) (E : XK), Room k (A.deeper (envOfC x (defScope st) s.heap.objs.size f cdv)) →
      GSs (cxf P w K mg base N x st f cdv A outer s H E) (fun cls d _ H' => E cls d H') (defBody st) b) : FnOk P w K mg base (L2.CX P w) (k + 1) f fd ps (spOfK ⟨K, mg⟩ (fnRunK ps.length N.length b)) := by
  refine F.okX S (fun vs H Q E ⟨W, Z, φ, M, avs, R, rs, h⟩ => ?_) (fun cdv A outer s H vs Q E hr ⟨W, Z, φ, M, avs, R, rs, h⟩ => ⟨_, body cdv A outer s H E hr, ?_⟩)
  · unfold fnRunK at h
    split at h
    · rename_i e; rw [← rs.length]; exact e
    · exact h.elim
  · unfold fnRunK at h
    split at h
    · rename_i hn
      refine ⟨W, Z, φ, initEnv N.length avs, M, R, start_env rs, ?_⟩
      cases e : b (initEnv N.length avs) M with
      | bad => rw [e] at h; exact h.elim
      | exc ex M' =>
        rw [e] at h
        exact fun W' ψ H' c d σ' fin xr _ => h W' H' c d (fin.rel.dropTo R.len) fin.ext xr
      | ok fl M' =>
        rw [e] at h
        cases fl with
        | next e' => exact h.elim
        | brk e' => exact h.elim
        | cont e' => exact h.elim
        | ret av =>
          cases av with
          | d x => exact h.elim
          | fr x => exact h.elim
          | scr x => exact h.elim
          | cell i =>
            dsimp only at h
            by_cases hi : i < M.length
            · rw [if_pos hi] at h; exact h.elim
            · rw [if_neg hi] at h
              cases e1 : M'[i]? with
              | none => rw [e1] at h; exact h.elim
              | some oc =>
                cases oc with
                | none => rw [e1] at h; exact h.elim
                | some mc =>
                  cases mc with
                  | l _ => rw [e1] at h; exact h.elim
                  | t _ => rw [e1] at h; exact h.elim
                  | k kvs =>
                    rw [e1] at h
                    exact fun W' ψ H' v fin r => retk_run R.len fin r hi e1 h
    · exact h.elim
end
def sArgsK (F : List AV → Mem → OutK) (l : SL) : SEk := fun env M => (l env M).bind fun avs M1 => F avs M1
def sAsgK (i : Nat) (f : SEk) : SS := fun env M => (f env M).bind fun kvs M1 => .ok (.next (env.set i (some (.cell M1.length)))) (M1 ++ [some (.k kvs)])
section
variable {X : Cx} {E : WX} {a b e t : Expr} {es : List Expr} {l : SL} {f : SE} {pos p q : Pos} {k : Nat}
theorem gek_call {x : Str} {F : List AV → Mem → OutK} (c : CaldK X k x F) (hr : Room k X.A) (tk : Takes X E) (hg : Gl X x) (hl : GL X E (e :: es) l) (hdb : (x == ("__debug__" : Str)) = false)
    (he : starEach (e :: es) X.env = (false, eval e X.env) :: starEach es X.env) (hpl : (backTo pos (starEach es X.env)).any (·.1) = false) : GEk X E (.Call (.Name x p) (e :: es) [] pos) (sArgsK F l) := by
  obtain ⟨f, fd, ps, h1, h2, h3, h4⟩ := c.ex
  exact PE.imp (pe_callS h4 hr hg h1 h2 h3 (fun σ => passAt tk σ) hl hdb he hpl) fun σ H Q ⟨W, Z, φ, env, M, R, Er, h⟩ => ⟨W, Z, φ, env, M, R, Er, (RunK.bind h).imp fun vs H1 ⟨W1, M1, avs, _, R1, x1, r1, h2⟩ => ⟨W1, Z, φ, M1, avs, R1, r1, h2⟩⟩
theorem gs_asgK {i : Nat} {x : Str} {fk : SEk} {pos' : Pos} (hN : X.N.Nodup) (hi : X.N[i]? = some x) (hx : Loc X.env.scope x) (he : GEk X E e fk) (hs : swapsWith e (some (.Name x pos')) pos.line X.env = pure false)
    (hf : X.fn x = true ∨ X.env.scope.names.lookup x = some .local) : GS X E (.Assign [.Name x pos'] e pos) (sAsgK i fk) :=
  PS.imp (ps_set hN hi hx he hs hf) fun D σ H ⟨W, Z, φ, env, M, R, Er, h⟩ => ⟨W, Z, φ, env, M, R, Er,
    (RunS.bind0 h).imp2 (fun v H1 ⟨W1, M1, kvs, _, R1, x1, r1, h2⟩ => by
      obtain ⟨p, rfl, h0, R2, hk⟩ := thawK R1 r1 x1.live
      have x2 : Ext W H (add1 W1 p) H1 := ⟨fun a o e n => ⟨(x1.keep a o e n).1, fun z => z.elim (x1.keep a o e n).2 fun z => by subst z; rw [h0] at e; cases e⟩, x1.live⟩
      refine h2 (add1 W1 p) [p] H1 _ ⟨R2, x2, fun q hq => by simp at hq; subst hq; exact h0⟩ ?_ (by simp)
      have Er2 := (Er.ext x2.bar).app [p]
      refine Er2.set (av := .cell M1.length) ⟨p, ?_, rfl⟩ i
      rw [← R1.len]
      simp) (fun c d H' q => q σ rfl)⟩
end
end Mp

set_option maxHeartbeats 4000000
namespace Mp
open PySem L2 PySem.Spec PyProof.Rows
section
variable {G : Gm} {W Z : Addr → Prop} {φ : List Addr} {H : Hp} {M : Mem}
theorem upd_live {p : Addr} {o : HO} (a : Addr) (h : H a ≠ none) : upd H p o a ≠ none := by
  by_cases z : a = p
  · rw [z, upd_same]; simp
  · rw [upd_ne z]; exact h
theorem Rel.updZ (R : Rel G W (add1 Z p) φ M H) {o : HO} (nW : ¬ W p) : Rel G W (add1 Z p) φ M (upd H p o) := by
  have x : Ext (Bar W (add1 Z p)) H (Bar W (add1 Z p)) (upd H p o) := ⟨fun a u e n => ⟨by rw [upd_ne fun z => n (.inr (.inr z))]; exact e, n⟩, fun a h => upd_live a h⟩
  refine ⟨R.len, R.nd, fun a w => upd_live a (R.wt a w), fun a z => upd_live a (R.zt a z), fun i q e => ⟨upd_live q (R.sep i q e).1, (R.sep i q e).2⟩, fun i q c e1 e2 => ?_⟩
  obtain ⟨w, r⟩ := R.cell i q c e1 e2
  exact ⟨w, r.ext x (upd_ne fun z => nW (by rw [← z]; exact w))⟩
theorem barZ {p : Addr} {o : HO} (hp : H p = none) : Ext (Bar W Z) H (Bar W (add1 Z p)) (upd H p o) := ⟨fun a u e n => by
  have hne : a ≠ p := fun z => by rw [z, hp] at e; cases e
  exact ⟨by rw [upd_ne hne]; exact e, fun z => by
    rcases z with z | z | z
    · exact n (.inl z)
    · exact n (.inr z)
    · exact hne z⟩, fun a h => upd_live a h⟩
end
/-! ## {n: True} -/
section
variable {X : Cx} {E : WX} {a b o e v ek ev : Expr} {f g fo fi fv : SE} {pos p2 tpos : Pos}
theorem gs_newK1 {i : Nat} {n : Int} {bb : Bool} {x : Str} {pos' : Pos} (hN : X.N.Nodup) (hi : X.N[i]? = some x) (hx : Loc X.env.scope x) (hk : GE X E ek (sCon (.int n))) (hv : GE X E ev (sCon (.bl bb))) (hs : swapsWith (.Dict [some ek] [ev] p2) (some (.Name x pos')) pos.line X.env = pure false) (hf : X.fn x = true ∨ X.env.scope.names.lookup x = some .local) :
    GS X E (.Assign [.Name x pos'] (.Dict [some ek] [ev] p2) pos) (sNewD i (.k [(n, .bl bb)])) :=
  PS.imp (ps_set hN hi hx (pe_disp (pps_cons hk hv pps_nil) rfl rfl (by simp) (by simp)) hs hf) fun D σ H ⟨W, Z, φ, env, M, R, Er, h⟩ => fun p hp => by
    have R2 := R.laid (o := .dK []) hp
    have x0 := Ext.laid R (o := .dK []) hp
    have nW : ¬ W p := fun z => R.wt p z hp
    have nZ : ¬ Z p := fun z => R.zt p z hp
    have xb : Ext (Bar W Z) H (Bar W (add1 Z p)) (upd H p (.dK [])) := barZ hp
    refine ⟨W, add1 Z p, φ, env, M, R2, Er.ext xb, fun W1 H1 v1 R3 x1 r1 => ⟨W1, add1 Z p, φ, env, M, R3, (Er.ext xb).ext x1.bar, fun W3 H3 v3 R4 x3 r3 => ?_⟩⟩
    have k1 := x1.keep p _ (by rw [upd_same]) nW
    have k3 := x3.keep p _ k1.1 k1.2
    have r1 : RD _ _ _ (.int n) v1 := r1
    have r3 : RD _ _ _ (.bl bb) v3 := r3
    cases r1
    cases r3
    refine ⟨k3.1, [(Sum.inl n, .bl bb)], rfl, by simp, ?_⟩
    have R5 := R4.updZ (o := .dK (mergeK [] [(Sum.inl n, .bl bb)])) k3.2
    have x5 : Ext W H W3 (upd H3 p (.dK (mergeK [] [(Sum.inl n, .bl bb)]))) := ⟨fun a u e n => by
      have hne : a ≠ p := fun z => by rw [z, hp] at e; cases e
      have q := ((x0.trans x1).trans x3).keep a u e n
      exact ⟨by rw [upd_ne hne]; exact q.1, q.2⟩, fun a h => upd_live a (((x0.trans x1).trans x3).live a h)⟩
    have vk : VRk (gm X) W3 Z φ H (upd H3 p (.dK (mergeK [] [(Sum.inl n, .bl bb)]))) M [(n, .bl bb)] (.ref p) :=
      ⟨p, [.bl bb], rfl, hp, by rw [upd_same]; rfl, fun z => z.elim k3.2 nZ, .cons (.bl _) .nil, R5⟩
    obtain ⟨q, eq, h0, R6, hk⟩ := thawK R5.unbar vk x5.live
    cases eq
    have x6 : Ext W H (add1 W3 p) (upd H3 p (.dK (mergeK [] [(Sum.inl n, .bl bb)]))) := ⟨fun a o e n => ⟨(x5.keep a o e n).1, fun z => z.elim (x5.keep a o e n).2 fun z => by subst z; rw [hp] at e; cases e⟩, x5.live⟩
    refine h (add1 W3 p) [p] _ _ ⟨R6, x6, fun q hq => by simp at hq; subst hq; exact hp⟩ ?_ (by simp)
    have Er2 := (Er.ext x6.bar).app [p]
    refine Er2.set (av := .cell M.length) ⟨p, ?_, rfl⟩ i
    rw [← R.len]
    simp
end
/-! ## key in f(..) -/
def inKOp (x : AV) (kvs : List (Int × D)) (M : Mem) : Out Bool := match x with
  | .d (.int i) => .ok (hasK kvs i) M
  | _ => .bad
def sInK (f : SE) (g : SEk) : SB := fun env M => (f env M).bind fun x M1 => (g env M1).bind fun kvs M2 => inKOp x kvs M2
section
variable {X : Cx} {E : WX} {a b : Expr} {f : SE} {g : SEk} {pos : Pos}
theorem gb_inK (hu : X.A.units + 65 < cLine) (hm : behindInMarks .In b = false) (ha : GE X E a f) (hb : GEk X E b g) : GB X E (.Compare a [.In] [b] pos) (sInK f g) :=
  PT.imp (pt_cmp (pc_din (by omega) ha hb) hm) fun σ H Q ⟨W, Z, φ, env, M, R, Er, h⟩ =>
    ⟨W, Z, φ, env, M, R, Er, (RunB.bind h).imp fun v H1 ⟨W1, M1, x, _, R1, x1, r1, h2⟩ =>
      ⟨W1, Z, φ, env, M1, R1, Er.ext x1.bar, (RunB.bind h2).imp fun u H2 ⟨W2, M2, kvs, _, R2, x2, r2, h4⟩ => by
        cases x with
        | d dd =>
          cases dd with
          | int i =>
            have r1' : RD _ _ _ (.int i) v := r1
            cases r1'
            obtain ⟨p, us, rfl, h0, hp, nb, rd, R3⟩ := r2
            refine ⟨p, _, rfl, DGet.k (k := Sum.inl i) hp, _, rfl, ?_⟩
            have e : (List.zip (kvs.map fun e => (Sum.inl e.1 : Key)) us).any (fun kv => decide (kv.1 = Sum.inl i)) = hasK kvs i := any_zip (fk := (Sum.inl : Int → Key)) (fun z => by injection z) i kvs us (by have := rd.length; simpa using this)
            rw [← valV_any, e]
            exact RunB.ok R2 h4
          | _ => exact h4.elim
        | _ => exact h4.elim⟩⟩
end
/-! ### stepping -/
section
variable {β : Type} {kx : Exc → Mem → Out β} {res : Out β} {env : Env} {M : Mem}
theorem e_argsK {k : List (Int × D) → Mem → Out β} {F : List AV → Mem → OutK} {l : SL} (h : el (l env M) (fun avs M1 => el (F avs M1) k kx) kx = res) : el (sArgsK F l env M) k kx = res := by
  rw [← h]
  exact el_bind _ _ _ _
theorem e_asgK {k : Fl → Mem → Out β} {i : Nat} {f : SEk} (h : el (f env M) (fun kvs M1 => k (.next (env.set i (some (.cell M1.length)))) (M1 ++ [some (.k kvs)])) kx = res) : el (sAsgK i f env M) k kx = res := by
  rw [← h]
  exact el_bind _ _ _ _
theorem e_inK {k : Bool → Mem → Out β} {f : SE} {g : SEk} (h : el (f env M) (fun x M1 => el (g env M1) (fun kvs M2 => el (inKOp x kvs M2) k kx) kx) kx = res) : el (sInK f g env M) k kx = res := by
  rw [← h]
  unfold sInK
  rw [el_bind]
  congr
  funext x M1
  rw [el_bind]
theorem p_inK {k : Bool → Mem → Out β} {i : Int} {kvs : List (Int × D)} (h : k (hasK kvs i) M = res) : el (inKOp (.d (.int i)) kvs M) k kx = res := h
end
end Mp

namespace Mp
open PySem L2 PySem.Spec PyProof.Rows

/-! ## sorted(a list of tuples of alike data) -/
def leD (a b : D) : Bool := PySem.W.dataLe false D.py a b
def sortD (xs : List D) : List D := xs.mergeSort leD
def neTup : D → Bool
  | .tup (_ :: _) => true
  | _ => false
def okSort (xs : List D) : Bool := D.flats xs && (xs.all fun a => xs.all fun b => PySem.W.alike a.py b.py) && xs.all neTup && xs.all fun a => decide (a.py.depth ≤ 60)
def sorted4Op : List AV → Mem → Out AV
  | [a], M => match sorted3Op [a] M with
    | .bad => match lstOf M a with
      | some xs => if okSort xs = true then .ok (.fr (sortD xs)) M else .bad
      | none => .bad
    | r => r
  | avs, M => sorted3Op avs M
theorem zipD {G : Gm} {B : Addr → Prop} {H : Hp} : ∀ {L : List D} {vs : List V}, RDs G B H L vs → ∃ zs : List (V × D), zs.map (·.1) = vs ∧ zs.map (·.2) = L ∧ ∀ z ∈ zs, RD G B H z.2 z.1
  | [], _, h => by cases h; exact ⟨[], rfl, rfl, fun _ h => (nomatch h)⟩
  | c :: L, _, h => by
    cases h with
    | @cons _ _ v vs h1 h2 =>
      obtain ⟨zs, e1, e2, e3⟩ := zipD h2
      refine ⟨(v, c) :: zs, by rw [List.map_cons, e1], by rw [List.map_cons, e2], fun z hz => ?_⟩
      rcases List.mem_cons.mp hz with rfl | hz
      · exact h1
      · exact e3 z hz
theorem dzip {G : Gm} {B : Addr → Prop} {H : Hp} : ∀ {zs : List (V × D)}, (∀ z ∈ zs, RD G B H z.2 z.1) → RDs G B H (zs.map (·.2)) (zs.map (·.1))
  | [], _ => .nil
  | z :: zs, h => .cons (h z List.mem_cons_self) (dzip fun y hy => h y (.tail _ hy))
theorem flats_mem : ∀ {xs : List D} {d : D}, D.flats xs = true → d ∈ xs → d.flat = true
  | x :: r, d, h, hd => by
    simp only [D.flats, Bool.and_eq_true] at h
    rcases List.mem_cons.mp hd with rfl | hd
    · exact h.1
    · exact flats_mem h.2 hd
section
variable {G : Gm} {W Z B : Addr → Prop} {φ : List Addr} {H : Hp} {M : Mem} {Q : VK} {E : XK} {avs : List AV} {vs : List V}
theorem sorted4_run (R : Rel G W Z φ M H) (r : SRs G (Bar W Z) φ H avs vs) (h : Run G Z φ W H (sorted4Op avs M) Q E) : rSortedTI G.K vs H Q ∨ (rSortedI G.K vs H Q ∨ rSortedDt G.K vs H Q) := by
  unfold sorted4Op at h
  split at h
  · rename_i a
    split at h
    · split at h
      · rename_i xs e1
        split at h
        · rename_i hok
          unfold okSort at hok
          simp only [Bool.and_eq_true] at hok
          obtain ⟨⟨⟨hf, hal⟩, hne⟩, hdp⟩ := hok
          obtain ⟨v, rfl, r1⟩ := r.one
          right; right
          obtain ⟨p, us, rfl, hq, hr, _⟩ := R.lst r1 e1
          obtain ⟨zs, z1, z2, z3⟩ := zipD hr
          have hpy : (zs.map fun z : V × D => (z.1, z.2.py)).map (·.1) = us := by rw [List.map_map]; exact z1
          have zmem : ∀ z ∈ zs, z.2 ∈ xs := fun z hz => by rw [← z2]; exact List.mem_map.mpr ⟨z, hz, rfl⟩
          refine ⟨p, zs.map fun z => (z.1, z.2.py), rfl, by rw [hpy]; exact hq, fun b hb => ?_, ?_, ?_, fun l hl => ?_⟩
          · obtain ⟨z, hz, rfl⟩ := List.mem_map.mp hb
            refine ⟨RD.dp (z3 z hz) (flats_mem hf (zmem z hz)), ?_⟩
            have := List.all_eq_true.mp hdp z.2 (zmem z hz)
            simpa using this
          · intro d hd d' hd'
            rw [List.map_map] at hd hd'
            obtain ⟨z, hz, rfl⟩ := List.mem_map.mp hd
            obtain ⟨z', hz', rfl⟩ := List.mem_map.mp hd'
            exact List.all_eq_true.mp (List.all_eq_true.mp hal z.2 (zmem z hz)) z'.2 (zmem z' hz')
          · left
            intro d hd
            rw [List.map_map] at hd
            obtain ⟨z, hz, rfl⟩ := List.mem_map.mp hd
            have := List.all_eq_true.mp hne z.2 (zmem z hz)
            cases e : z.2 with
            | tup ys =>
              rw [e] at this
              cases ys with
              | nil => cases this
              | cons x c => exact ⟨x.py, D.pys c, by show z.2.py = _; rw [e]; rfl⟩
            | _ => rw [e] at this; cases this
          · have em : ((zs.map fun z : V × D => (z.1, z.2.py)).mergeSort (PySem.W.dataLe false (·.2))).map (·.1) = (zs.mergeSort fun a b => leD a.2 b.2).map (·.1) := by
              rw [← List.map_mergeSort (r := fun a b : V × D => leD a.2 b.2) (fun a _ b _ => ?_), List.map_map]
              · rfl
              · rfl
            rw [em]
            have el : sortD xs = (zs.mergeSort fun a b => leD a.2 b.2).map (·.2) := by
              rw [List.map_mergeSort (s := leD) (fun a _ b _ => rfl), z2]
              rfl
            rw [el] at h
            exact Run.new R h (dzip fun z hz => z3 z (List.mem_mergeSort.mp hz)) l hl
        · exact h.elim
      · exact h.elim
    · exact sorted3_run R r h
  · exact sorted3_run R r h
end
section
variable {X : Cx} {E : WX} {e : Expr} {es : List Expr} {l : SL} {pos p : Pos}
theorem gc_sorted4 (hu : X.A.units + 65 < cLine) (hc : X.calm = true) (hl : GL X E (e :: es) l) (he : starEach (e :: es) X.env = (false, eval e X.env) :: starEach es X.env) (hpl : (backTo pos (starEach es X.env)).any (·.1) = false) (hg : Gl X "sorted") (hm : X.mg "sorted" = none) : GE X E (.Call (.Name "sorted" p) (e :: es) [] pos) (sArgs sorted4Op l) :=
  ge_bi (fun h => pe_callB (cr_sortedTI.or (cr_sortedI.or (cr_sortedDt (by omega)))) hg hm boot_sorted h (he := he) (hpl := hpl)) hl fun W Z φ M H avs vs Q E R r h => sorted4_run R r h
end
/-! pairs of rows of ints -/
abbrev tp (p : List Int × List Int) : D := .tup [ti p.1, ti p.2]
theorem tp_py (p : List Int × List Int) : (tp p).py = .tuple [.tuple (p.1.map .int), .tuple (p.2.map .int)] := by
  show PyData.tuple [(ti p.1).py, (ti p.2).py] = _
  rw [py_ti, py_ti]
theorem tp_okS (L : List (List Int × List Int)) : okSort (L.map tp) = true := by
  unfold okSort
  simp only [Bool.and_eq_true]
  refine ⟨⟨⟨?_, ?_⟩, ?_⟩, ?_⟩
  · induction L with
    | nil => rfl
    | cons p L ih =>
      show ((tp p).flat && D.flats (L.map tp)) = true
      rw [ih, Bool.and_true]
      show ((ti p.1).flat && ((ti p.2).flat && true)) = true
      rw [flat_ti, flat_ti]
      rfl
  · refine List.all_eq_true.mpr fun a ha => List.all_eq_true.mpr fun b hb => ?_
    obtain ⟨p, _, rfl⟩ := List.mem_map.mp ha
    obtain ⟨q, _, rfl⟩ := List.mem_map.mp hb
    rw [tp_py, tp_py]
    show (PySem.W.alikeAll (p.1.map .int) (q.1.map .int) && (PySem.W.alikeAll (p.2.map .int) (q.2.map .int) && true)) = true
    rw [PySem.W.alike_ints, PySem.W.alike_ints]
    rfl
  · refine List.all_eq_true.mpr fun a ha => ?_
    obtain ⟨p, _, rfl⟩ := List.mem_map.mp ha
    rfl
  · refine List.all_eq_true.mpr fun a ha => ?_
    obtain ⟨p, _, rfl⟩ := List.mem_map.mp ha
    rw [tp_py, decide_eq_true_iff]
    show max (PyData.depthAll (p.1.map .int) + 1) (max (PyData.depthAll (p.2.map .int) + 1) 0) + 1 ≤ 60
    rw [PySem.W.depth_ints, PySem.W.depth_ints]
    decide
theorem tp_inj {p q : List Int × List Int} (h : tp p = tp q) : p = q := by
  have inj : ∀ a b : List Int, a.map D.int = b.map D.int → a = b := fun a b h => by
    have := congrArg (List.map fun d : D => match d with | .int i => i | _ => 0) h
    rw [List.map_map, List.map_map] at this
    have idm : ∀ c : List Int, c.map ((fun d : D => match d with | .int i => i | _ => 0) ∘ D.int) = c := fun c => by
      induction c with
      | nil => rfl
      | cons x r ih => rw [List.map_cons, ih]; rfl
    rw [idm, idm] at this
    exact this
  injection h with h
  injection h with h1 h2
  injection h2 with h2 h3
  injection h1 with h1
  injection h2 with h2
  exact Prod.ext (inj _ _ h1) (inj _ _ h2)
theorem sorted_tp (L : List (List Int × List Int)) (M : Mem) : ∃ L' : List (List Int × List Int), L'.Perm L ∧ sorted4Op [.d (.lst (L.map tp))] M = .ok (.fr (L'.map tp)) M := by
  cases L with
  | nil =>
    refine ⟨[], .refl _, ?_⟩
    have h3 : sorted3Op [.d (.lst (([] : List (List Int × List Int)).map tp))] M = .ok (.fr ((sortI []).map D.int)) M := rfl
    have h4 : sortI [] = [] := (List.perm_nil).mp (sortI_perm [])
    rw [h4] at h3
    unfold sorted4Op
    dsimp only
    rw [h3]
    rfl
  | cons p L =>
    refine ⟨(p :: L).mergeSort fun a b => leD (tp a) (tp b), List.mergeSort_perm _ _, ?_⟩
    have h3 : sorted3Op [.d (.lst ((p :: L).map tp))] M = .bad := rfl
    have h4 : lstOf M (.d (.lst ((p :: L).map tp))) = some ((p :: L).map tp) := rfl
    unfold sorted4Op
    dsimp only
    rw [h3]
    dsimp only
    rw [h4]
    dsimp only
    rw [if_pos (tp_okS _)]
    unfold sortD
    rw [List.map_mergeSort (s := leD) (fun a _ b _ => rfl)]
end Mp

namespace Mp
open PySem L2 PySem.Spec PyProof.Rows

/-! ## (a, b, ..) = a list -/
section
variable {prog : Program} {w : World} {A : Around} {E : Value → Shared → Prop}
/-- the rest of a list is drawn, item by item -/
theorem drawL_ok {l it : Addr} {its : Array Value} (ne : l ≠ it) : ∀ (rest : List Value) (i : Nat), its.toList.drop i = rest → ∀ (s : Shared) (Q : List Value → Shared → Prop), s.heap.IsList l its → s.heap.IsListIter it l i →
    (∀ h', Heap.SameBut it s.heap h' → h'.IsListIter it l (i + rest.length) → Q rest { s with heap := h' }) → wpAny (model prog w) A (draw (.ref it) rest.length) Q E s
  | [], i, _, s, Q, _, h2, q => wpAny_pure (q s.heap (Heap.SameBut.refl ..) h2)
  | x :: rest, i, e, s, Q, h1, h2, q => by
    have hx : its[i]? = some x := by
      have := congrArg (fun z => z[0]?) e
      simpa using this
    have e2 : its.toList.drop (i + 1) = rest := by rw [← List.tail_drop, e]; rfl
    show wpAny _ _ (pyNext (.ref it) >>= _) Q E s
    refine wpAny_bind (wpAny_pyNext_list_item h2 h1 hx fun h' g2 b => ?_)
    refine wpAny_bind (wpAny_holding (drawL_ok ne rest (i + 1) e2 _ _ (h1.extBut b.extBut ne) g2 fun h'' b2 g3 => ?_))
    exact wpAny_pure (q h'' (b.trans b2) (by rw [List.length_cons, show i + (rest.length + 1) = i + 1 + rest.length by omega]; exact g3))
theorem itemsL_ok {l : Addr} {its : Array Value} {s : Shared} {Q : List Value → Shared → Prop} (hA : A.handled = none) (h1 : s.heap.IsList l its)
    (q : ∀ h', Heap.ExtBut s.heap.objs.size s.heap h' → Q its.toList { s with heap := h' }) : wpAny (model prog w) A (unpackItems (.ref l) its.toList.length none) Q E s := by
  obtain ⟨o, ho, hc, n, hd⟩ := id h1
  have ne : l ≠ s.heap.objs.size := Nat.ne_of_lt (Heap.lt_size ho)
  have hlt := h1.typeIs
  unfold unpackItems notIterableAtAll
  refine wpAny_bind (wpAny_bind (wpAny_specialOf hlt slot_list_iter.lookup (wpAny_pure ?_)))
  show wpAny _ _ (holding [.ref l] (pyIter (.ref l)) >>= _) Q E s
  refine wpAny_bind (wpAny_holding (wpAny_pyIter_list h1 ?_))
  refine wpAny_bind (wpAny_holding (drawL_ok ne its.toList 0 List.drop_zero _ _ (h1.push _) ⟨_, Heap.get?_push_size _ rfl, rfl, rfl⟩ fun h' b g => ?_))
  rw [if_neg (Nat.lt_irrefl _)]
  refine wpAny_bind (wpAny_holding (wpAny_pyNext_list_end hA g ((h1.push _).extBut b.extBut ne) (by simp) fun h'' x => ?_))
  exact wpAny_pure (q h'' fun a o ha e => x a o ha (b.extBut a o ha (Heap.get?_push_of_some _ e)))
end
/-- (a, b, ..) = a list of that length -/
def gTupL (K : PySem.W.Frag) (n : Nat) (t : TGs) : TG := fun v σ H Q => ∃ a xs, v = .ref a ∧ SqL K H a xs ∧ xs.length = n ∧ t xs σ H Q
section
variable {X : Cx} {E : WX} {e tg : Expr} {es : List Expr} {f : SE} {pos p2 : Pos} {t : Tg}
theorem pg_tupL {k : Nat} {t : TGs} {n : Nat} (hc : X.calm = true) (h : PGs X es t) (hn : (assignEach es X.env).length = n) (hst : (assignEach es X.env).findIdx? (·.1) = none) : PG X (.Tuple es k pos) (gTupL X.K n t) :=
  ⟨fun pins s σ H v u Q I r hw => by
    obtain ⟨a, xs, rfl, hq, hl, hw⟩ := hw
    cases r
    obtain ⟨its, rv, ⟨o, m, e1, e2, _, e3⟩, _⟩ := I.list hq
    have h1 : s.heap.IsList a its.toArray := ⟨o, e1, e2, m, e3⟩
    rw [arm_assign_Tuple]
    refine wpAny_bind (wpAny_standAt ?_)
    unfold unpack
    rw [hst, show (assignEach es X.env).length = its.toArray.toList.length by simp [hn, ← hl, rv.length]]
    refine wpAny_bind (wpAny_holding (itemsL_ok (I.ok.hd hc) h1 fun h' hx => ?_))
    exact h.run pins _ σ H xs _ Q (I.kept (t' := s.toks) fun b o e => hx b o (Nat.ne_of_lt (Heap.lt_size e)) e) (by simpa using rv) hw⟩
/-- targets = a list -/
def sAsgL (t : Tg) (f : SE) : SS := fun env M => (f env M).bind fun x M1 => match lstOf M1 x with
  | some xs => match t.bind (.tup xs) env with
    | some e => .ok (.next e) M1
    | none => .bad
  | none => .bad
def rdTL (G : Gm) (t : Tg) : TG := fun v σ H Q => ∃ W Z φ env M x xs env', Rel G W Z φ M H ∧ EnvR G (Bar W Z) φ H env σ ∧ SR G (Bar W Z) φ H x v ∧ lstOf M x = some xs ∧ t.bind (.tup xs) env = some env' ∧
  ∀ σ', EnvR G (Bar W Z) φ H env' σ' → Q σ' H
theorem gg_tupL {k n : Nat} (hc : X.calm = true) (h : PGs X es (rdTs (gm X) t)) (hn : (assignEach es X.env).length = n) (hst : (assignEach es X.env).findIdx? (·.1) = none)
    (hl : ∀ ds env env', t.bind (.tup ds) env = some env' → ds.length = n) : PG X (.Tuple es k pos) (rdTL (gm X) t) :=
  PG.imp (pg_tupL hc h hn hst) fun v σ H Q ⟨W, Z, φ, env, M, x, xs, env', R, Er, r, hx, hb, q⟩ => by
    obtain ⟨p, vs, rfl, h1, h2, _⟩ := R.lst r hx
    exact ⟨p, vs, rfl, h1, by rw [← h2.length]; exact hl xs env env' hb, W, Z, φ, env, M, xs, env', R, Er, h2, hb, fun σ' Er' _ => q σ' Er'⟩
theorem gs_asgL (he : GE X E e f) (hg : PG X tg (rdTL (gm X) t)) (hs : swapsWithSole [tg] e pos.line X.env = pure false) (hw : swappedStores [tg] e X.env = pure none) (h1 : (assignEach [tg] X.env).map (·.2) = [assign tg X.env]) :
    GS X E (.Assign [tg] e pos) (sAsgL t f) :=
  PS.imp (ps_asg he hg hs hw h1) fun D σ H ⟨W, Z, φ, env, M, R, Er, h⟩ => ⟨W, Z, φ, env, M, R, Er,
    (RunS.bind h).imp2 (fun v H1 ⟨W1, M1, x, _, R1, x1, r1, h2⟩ => by
      cases e2 : lstOf M1 x with
      | none => rw [e2] at h2; exact h2.elim
      | some xs =>
        rw [e2] at h2
        dsimp only at h2
        cases e1 : t.bind (.tup xs) env with
        | none => rw [e1] at h2; exact h2.elim
        | some env' =>
          rw [e1] at h2
          exact ⟨W1, Z, φ, env, M1, x, xs, env', R1, Er.ext x1.bar, r1.sr, e2, e1, fun σ' Er' => RunS.next R1 h2 Er' (by rw [← Er'.len, Tg.len e1, Er.len])⟩) (fun c d H' q => q σ rfl)⟩
end
theorem e_asgL {β : Type} {kx : Exc → Mem → Out β} {res : Out β} {k : Fl → Mem → Out β} {tg : Tg} {f : SE} {env e : Env} {M M1 : Mem} {x : AV} {xs : List D} (h0 : f env M = .ok x M1) (h1 : lstOf M1 x = some xs) (h2 : tg.bind (.tup xs) env = some e) (h : k (.next e) M1 = res) : el (sAsgL tg f env M) k kx = res := by
  rw [← h]
  unfold sAsgL
  rw [h0]
  simp only [Out.bind, h1, h2]
  rfl
end Mp

namespace Mp
open PySem L2 PySem.Spec PyProof.Rows
def top (i : Nat) : Stmt := PySem.Challenge.pw_germroads_k22_whole_rows_of_values_unloa.main.body.getD i (.Pass ⟨0, 0, 0, 0⟩)
structure Bn (mg : Str → Option Value) : Prop where
  abs : mg "abs" = none
  all : mg "all" = none
  bool : mg "bool" = none
  enumerate : mg "enumerate" = none
  int : mg "int" = none
  isinstance : mg "isinstance" = none
  len : mg "len" = none
  list : mg "list" = none
  min : mg "min" = none
  range : mg "range" = none
  str : mg "str" = none
  sum : mg "sum" = none
  tuple : mg "tuple" = none
structure Cs (G : Gm) : Prop where
  kMOST_POINTS : Cst G "MOST_POINTS" (.int 60)
  kMOST_WEIGHT : Cst G "MOST_WEIGHT" (.int 100000)
/-! ### is_integer -/
abbrev stis_integer : Stmt := top 5
def Tis_integer : SS :=
 (sSeq2 (sRet (sAnd (sIsi ["int"] (sVar 0)) (sNot (sIsi ["bool"] (sVar 0)))))
 sSkip)
def Fis_integer : List AV → Mem → Out AV := fnRun 1 1 Tis_integer
theorem scis_integer : FnScope ["value"] ["value"] (defScope stis_integer) := C8.fnScope_by rfl
theorem okis_integer {P : Program} {w : World} {K : PySem.W.Frag} {mg : Str → Option Value} {base : Heap} {f : Addr} {fd : FuncData} (F : Fun K "is_integer" "is_integer" stis_integer f fd) (B : Bn mg) : FnOk P w K mg base (L2.CX P w) 1 f fd ["value"] (spOf ⟨K, mg⟩ Fis_integer) := by
  refine fn_ok (N := ["value"]) F scis_integer (fun cdv A outer s H E hr => ?_)
  have hnd : (["value"] : List Str).Nodup := scis_integer.nd
  have hu : (A.deeper (envOfC "is_integer" (defScope stis_integer) s.heap.objs.size f cdv)).units + 65 < cLine := by have := hr.un; omega
  have tk : Takes (cxf P w K mg base ["value"] "is_integer" stis_integer f cdv A outer s H E) (fun cls d _ H' => E cls d H') := takes_of rfl rfl rfl rfl
  have po : PassesOwn (model P w) (cxf P w K mg base ["value"] "is_integer" stis_integer f cdv A outer s H E).A (cxf P w K mg base ["value"] "is_integer" stis_integer f cdv A outer s H E).env (cxf P w K mg base ["value"] "is_integer" stis_integer f cdv A outer s H E).xe := passes_of rfl
  exact (gs_cons (gs_ret (ge_and (ge_isi1 (u := "int") (by rfl) B.isinstance (by decide) (pe_bltn (by rfl) B.int boot_int (by rfl)) (gv 0) (by rfl) (by rfl) (by rfl)) (ge_one1 (ge_not (ge_isi1 (u := "bool") (by rfl) B.isinstance (by decide) (pe_bltn (by rfl) B.bool boot_bool (by rfl)) (gv 0) (by rfl) (by rfl) (by rfl))))))
 gs_nil)
/-! ### is_item -/
abbrev stis_item : Stmt := top 10
def Tis_item : SS :=
 (sSeq2 (sIfS (sOrB (sNotB (sB (sIsi ["tuple"] (sVar 2)))) (sOrB (sNotB (sB (sChain .LtE .LtE (sCon (.int 1)) (sArgs lenOp (sCons (sVar 2) sNil)) (sCon (.int 2))))) (sNotB (sB (sArgs allOp (sCons (sComp (sSeq (sVar 2)) (.name 3) sYes (sAnd (sArgs Fis_integer (sCons (sVar 3) sNil)) (sChain .LtE .Lt (sCon (.int 0)) (sVar 3) (sVar 1))) (([("q", 3)] : List (Str × Nat)).map (·.2))) sNil))))))
 (sSeq2 (sRet (sCon (.bl false)))
 sSkip)
 sSkip)
 (sSeq2 (sRet (sOr (sCmp .Eq (sArgs lenOp (sCons (sVar 2) sNil)) (sCon (.int 1))) (sCmp .In (sIdx (sVar 2) (sCon (.int 1))) (sIdx (sVar 0) (sIdx (sVar 2) (sCon (.int 0)))))))
 sSkip))
def Fis_item : List AV → Mem → Out AV := fnRun 3 4 Tis_item
theorem scis_item : FnScope ["points", "p", "own", "q"] ["points", "p", "own"] (defScope stis_item) := C8.fnScope_by rfl
theorem okis_item {P : Program} {w : World} {K : PySem.W.Frag} {mg : Str → Option Value} {base : Heap} {f : Addr} {fd : FuncData} (F : Fun K "is_item" "is_item" stis_item f fd) (B : Bn mg) (cis_integer : CalD P w K mg base 1 "is_integer" Fis_integer) : FnOk P w K mg base (L2.CX P w) 2 f fd ["points", "p", "own"] (spOf ⟨K, mg⟩ Fis_item) := by
  refine fn_ok (N := ["points", "p", "own", "q"]) F scis_item (fun cdv A outer s H E hr => ?_)
  have hnd : (["points", "p", "own", "q"] : List Str).Nodup := scis_item.nd
  have hu : (A.deeper (envOfC "is_item" (defScope stis_item) s.heap.objs.size f cdv)).units + 65 < cLine := by have := hr.un; omega
  have tk : Takes (cxf P w K mg base ["points", "p", "own", "q"] "is_item" stis_item f cdv A outer s H E) (fun cls d _ H' => E cls d H') := takes_of rfl rfl rfl rfl
  have po : PassesOwn (model P w) (cxf P w K mg base ["points", "p", "own", "q"] "is_item" stis_item f cdv A outer s H E).A (cxf P w K mg base ["points", "p", "own", "q"] "is_item" stis_item f cdv A outer s H E).env (cxf P w K mg base ["points", "p", "own", "q"] "is_item" stis_item f cdv A outer s H E).xe := passes_of rfl
  exact (gs_cons (gs_if (gb_or (gb_not (gb_truth (ge_isi1 (u := "tuple") (by rfl) B.isinstance (by decide) (pe_bltn (by rfl) B.tuple boot_tuple (by rfl)) (gv 2) (by rfl) (by rfl) (by rfl)) (fun _ => rfl))) (gb_or (gb_not (gb_chain hu (by rfl) gn_int (gc_len (by rfl) (gl_one (gv 2)) (by rfl) (by rfl) (by rfl) B.len) gn_int)) (gb_or1 (gb_not (gb_truth (gc_all (by rfl) (gl_one (ge_comp (own := [("q", 3)]) (t := (.name 3)) (by rfl) hnd (gi_seq (gv 2)) (blkOk_by (by rfl)) (fun _ _ _ _ _ => (gg_name (i := 3) hnd (by rfl) (by first | exact Or.inl rfl | exact Or.inr rfl) (by first | exact Or.inl rfl | exact Or.inr rfl))) (fun _ _ _ _ _ => gts_nil) (fun _ _ _ _ _ => (ge_and (ge_call (by exact cis_integer.cald) (hr.mono (by decide)) takesW (by rfl) (gl_one (gv 3)) (by decide) (by rfl) (by rfl)) (ge_one1 (ge_chain hu (by rfl) gn_int (gv 3) (gv 1))))) (fun _ => rfl) (by decide))) (by rfl) (by rfl) (by rfl) B.all) (fun _ => rfl)))))).pt
 (gs_cons (gs_ret gn_bl)
 gs_nil)
 gs_nil)
 (gs_cons (gs_ret (ge_or (ge_cmp hu (by rfl) (gc_len (by rfl) (gl_one (gv 2)) (by rfl) (by rfl) (by rfl) B.len) gn_int) (ge_one1 (ge_cmp hu (by rfl) (ge_idx (fun _ _ => rfl) (gv 2) gn_int) (ge_idx (fun _ _ => rfl) (gv 0) (ge_idx (fun _ _ => rfl) (gv 2) gn_int))))))
 gs_nil))
/-! ### is_points -/
abbrev stis_points : Stmt := top 9
def Tis_points : SS :=
 (sSeq2 (sIfS (sOrB (sNotB (sB (sIsi ["tuple"] (sVar 0)))) (sNotB (sB (sChain .LtE .LtE (sCon (.int 1)) (sArgs lenOp (sCons (sVar 0) sNil)) (sCon (.int 60))))))
 (sSeq2 (sRet (sCon (.bl false)))
 sSkip)
 sSkip)
 (sSeq2 (sIfS (sOrB (sNotB (sB (sIsi ["tuple"] (sIdx (sVar 0) (sCon (.int 0)))))) (sB (sCmp .Gt (sArgs lenOp (sCons (sIdx (sVar 0) (sCon (.int 0))) sNil)) (sCon (.int 0)))))
 (sSeq2 (sRet (sCon (.bl false)))
 sSkip)
 sSkip)
 (sSeq2 (sNewD 1 (.t []))
 (sSeq2 (sFor (sItm enumItm2 (sCons (sVar 0) sNil)) (.tup (.cons (.name 2) (.cons (.name 3) .nil)))
 (sSeq2 (sIfS (sAndB (sB (sCmp .Gt (sVar 2) (sCon (.int 0)))) (sNotB (sB (sArgs Fis_item (sCons (sVar 0) (sCons (sVar 2) (sCons (sVar 3) sNil)))))))
 (sSeq2 (sRet (sCon (.bl false)))
 sSkip)
 sSkip)
 (sSeq2 (sIfS (sB (sCmp .Eq (sArgs lenOp (sCons (sVar 3) sNil)) (sCon (.int 2))))
 (sSeq2 (sIfS (sB (sInD false (sVar 3) (sVar 1)))
 (sSeq2 (sRet (sCon (.bl false)))
 sSkip)
 sSkip)
 (sSeq2 (sPutD (sVar 1) (sVar 3) (sCon (.bl true)))
 sSkip))
 sSkip)
 sSkip)))
 (sSeq2 (sRet (sCon (.bl true)))
 sSkip)))))
def Fis_points : List AV → Mem → Out AV := fnRun 1 4 Tis_points
theorem scis_points : FnScope ["value", "satellites", "p", "own"] ["value"] (defScope stis_points) := C8.fnScope_by rfl
theorem okis_points {P : Program} {w : World} {K : PySem.W.Frag} {mg : Str → Option Value} {base : Heap} {f : Addr} {fd : FuncData} (F : Fun K "is_points" "is_points" stis_points f fd) (B : Bn mg) (C : Cs ⟨K, mg⟩) (cis_item : CalD P w K mg base 2 "is_item" Fis_item) : FnOk P w K mg base (L2.CX P w) 3 f fd ["value"] (spOf ⟨K, mg⟩ Fis_points) := by
  refine fn_ok (N := ["value", "satellites", "p", "own"]) F scis_points (fun cdv A outer s H E hr => ?_)
  have hnd : (["value", "satellites", "p", "own"] : List Str).Nodup := scis_points.nd
  have hu : (A.deeper (envOfC "is_points" (defScope stis_points) s.heap.objs.size f cdv)).units + 65 < cLine := by have := hr.un; omega
  have tk : Takes (cxf P w K mg base ["value", "satellites", "p", "own"] "is_points" stis_points f cdv A outer s H E) (fun cls d _ H' => E cls d H') := takes_of rfl rfl rfl rfl
  have po : PassesOwn (model P w) (cxf P w K mg base ["value", "satellites", "p", "own"] "is_points" stis_points f cdv A outer s H E).A (cxf P w K mg base ["value", "satellites", "p", "own"] "is_points" stis_points f cdv A outer s H E).env (cxf P w K mg base ["value", "satellites", "p", "own"] "is_points" stis_points f cdv A outer s H E).xe := passes_of rfl
  exact (gs_cons (gs_if (gb_or (gb_not (gb_truth (ge_isi1 (u := "tuple") (by rfl) B.isinstance (by decide) (pe_bltn (by rfl) B.tuple boot_tuple (by rfl)) (gv 0) (by rfl) (by rfl) (by rfl)) (fun _ => rfl))) (gb_or1 (gb_not (gb_chain hu (by rfl) gn_int (gc_len (by rfl) (gl_one (gv 0)) (by rfl) (by rfl) (by rfl) B.len) (ge_cst C.kMOST_POINTS (by rfl) (by decide)))))).pt
 (gs_cons (gs_ret gn_bl)
 gs_nil)
 gs_nil)
 (gs_cons (gs_if (gb_or (gb_not (gb_truth (ge_isi1 (u := "tuple") (by rfl) B.isinstance (by decide) (pe_bltn (by rfl) B.tuple boot_tuple (by rfl)) (ge_idx (fun _ _ => rfl) (gv 0) gn_int) (by rfl) (by rfl) (by rfl)) (fun _ => rfl))) (gb_or1 (gb_cmp hu (by rfl) (gc_len (by rfl) (gl_one (ge_idx (fun _ _ => rfl) (gv 0) gn_int)) (by rfl) (by rfl) (by rfl) B.len) gn_int))).pt
 (gs_cons (gs_ret gn_bl)
 gs_nil)
 gs_nil)
 (gs_cons (gs_newT (i := 1) hnd (by rfl) (by first | exact Or.inl rfl | exact Or.inr rfl) (by rfl) (.inl rfl))
 (gs_cons (gs_for (t := (.tup (.cons (.name 2) (.cons (.name 3) .nil)))) po (by rfl) (gi_enum2 (by rfl) B.enumerate (by rfl) (gl_one (gv 0))) (gg_tup (n := 2) (by rfl) (gg_cons (gg_name (i := 2) hnd (by rfl) (by first | exact Or.inl rfl | exact Or.inr rfl) (by first | exact Or.inl rfl | exact Or.inr rfl)) (gg_cons (gg_name (i := 3) hnd (by rfl) (by first | exact Or.inl rfl | exact Or.inr rfl) (by first | exact Or.inl rfl | exact Or.inr rfl)) gg_nil (by rfl)) (by rfl)) (by rfl) (by rfl) (tg_lenS (tg_lenS tg_len0)))
 (gs_cons (gs_if (gb_and (gb_cmp hu (by rfl) (gv 2) gn_int) (gb_and1 (gb_not (gb_truth (ge_call (by exact cis_item.cald) (hr.mono (by decide)) tk (by rfl) (gl_more (gv 0) (gl_more (gv 2) (gl_one (gv 3)))) (by decide) (by rfl) (by rfl)) (fun _ => rfl))))).pt
 (gs_cons (gs_ret gn_bl)
 gs_nil)
 gs_nil)
 (gs_cons (gs_if (gb_cmp hu (by rfl) (gc_len (by rfl) (gl_one (gv 3)) (by rfl) (by rfl) (by rfl) B.len) gn_int)
 (gs_cons (gs_if (gb_inD hu (by rfl) (gv 3) (gv 1))
 (gs_cons (gs_ret gn_bl)
 gs_nil)
 gs_nil)
 (gs_cons (gs_putD hu gn_bl (gv 1) (gv 3) (by rfl))
 gs_nil))
 gs_nil)
 gs_nil)) (fun _ => rfl))
 (gs_cons (gs_ret gn_bl)
 gs_nil)))))
/-! ### check_points -/
abbrev stcheck_points : Stmt := top 11
def Tcheck_points : SS :=
 (sSeq2 (sIfS (sNotB (sB (sArgs Fis_points (sCons (sVar 0) sNil))))
 (sSeq2 (sRaise "Malformed" [])
 sSkip)
 sSkip)
 sSkip)
def Fcheck_points : List AV → Mem → Out AV := fnRun 1 1 Tcheck_points
theorem sccheck_points : FnScope ["points"] ["points"] (defScope stcheck_points) := C8.fnScope_by rfl
theorem okcheck_points {P : Program} {w : World} {K : PySem.W.Frag} {mg : Str → Option Value} {base : Heap} {f CM CR fR : Addr} {fd : FuncData} (F : Fun K "check_points" "check_points" stcheck_points f fd) (T : Errs P K mg CM CR fR) (cis_points : CalD P w K mg base 3 "is_points" Fis_points) : FnOk P w K mg base (L2.CX P w) 4 f fd ["points"] (spOf ⟨K, mg⟩ Fcheck_points) := by
  refine fn_ok (N := ["points"]) F sccheck_points (fun cdv A outer s H E hr => ?_)
  have hnd : (["points"] : List Str).Nodup := sccheck_points.nd
  have hu : (A.deeper (envOfC "check_points" (defScope stcheck_points) s.heap.objs.size f cdv)).units + 65 < cLine := by have := hr.un; omega
  have tk : Takes (cxf P w K mg base ["points"] "check_points" stcheck_points f cdv A outer s H E) (fun cls d _ H' => E cls d H') := takes_of rfl rfl rfl rfl
  have po : PassesOwn (model P w) (cxf P w K mg base ["points"] "check_points" stcheck_points f cdv A outer s H E).A (cxf P w K mg base ["points"] "check_points" stcheck_points f cdv A outer s H E).env (cxf P w K mg base ["points"] "check_points" stcheck_points f cdv A outer s H E).xe := passes_of rfl
  exact (gs_cons (gs_if (gb_not (gb_truth (ge_call (by exact cis_points.cald) (hr.mono (by decide)) tk (by rfl) (gl_one (gv 0)) (by decide) (by rfl) (by rfl)) (fun _ => rfl)))
 (gs_cons (gs_rM T (by rfl) tk (by rfl))
 gs_nil)
 gs_nil)
 gs_nil)
/-! ### is_weight_row -/
abbrev stis_weight_row : Stmt := top 12
def Tis_weight_row : SS :=
 (sSeq2 (sIfS (sOrB (sNotB (sB (sIsi ["tuple"] (sVar 1)))) (sB (sCmp .NotEq (sArgs lenOp (sCons (sVar 1) sNil)) (sArgs lenOp (sCons (sVar 0) sNil)))))
 (sSeq2 (sRet (sCon (.bl false)))
 sSkip)
 sSkip)
 (sSeq2 (sRet (sArgs allOp (sCons (sComp (sSeq (sVar 1)) (.name 2) sYes (sAnd (sArgs Fis_integer (sCons (sVar 2) sNil)) (sChain .LtE .LtE (sNeg (sCon (.int 100000))) (sVar 2) (sCon (.int 100000)))) (([("m", 2)] : List (Str × Nat)).map (·.2))) sNil)))
 sSkip))
def Fis_weight_row : List AV → Mem → Out AV := fnRun 2 3 Tis_weight_row
theorem scis_weight_row : FnScope ["points", "value", "m"] ["points", "value"] (defScope stis_weight_row) := C8.fnScope_by rfl
theorem okis_weight_row {P : Program} {w : World} {K : PySem.W.Frag} {mg : Str → Option Value} {base : Heap} {f : Addr} {fd : FuncData} (F : Fun K "is_weight_row" "is_weight_row" stis_weight_row f fd) (B : Bn mg) (C : Cs ⟨K, mg⟩) (cis_integer : CalD P w K mg base 1 "is_integer" Fis_integer) : FnOk P w K mg base (L2.CX P w) 2 f fd ["points", "value"] (spOf ⟨K, mg⟩ Fis_weight_row) := by
  refine fn_ok (N := ["points", "value", "m"]) F scis_weight_row (fun cdv A outer s H E hr => ?_)
  have hnd : (["points", "value", "m"] : List Str).Nodup := scis_weight_row.nd
  have hu : (A.deeper (envOfC "is_weight_row" (defScope stis_weight_row) s.heap.objs.size f cdv)).units + 65 < cLine := by have := hr.un; omega
  have tk : Takes (cxf P w K mg base ["points", "value", "m"] "is_weight_row" stis_weight_row f cdv A outer s H E) (fun cls d _ H' => E cls d H') := takes_of rfl rfl rfl rfl
  have po : PassesOwn (model P w) (cxf P w K mg base ["points", "value", "m"] "is_weight_row" stis_weight_row f cdv A outer s H E).A (cxf P w K mg base ["points", "value", "m"] "is_weight_row" stis_weight_row f cdv A outer s H E).env (cxf P w K mg base ["points", "value", "m"] "is_weight_row" stis_weight_row f cdv A outer s H E).xe := passes_of rfl
  exact (gs_cons (gs_if (gb_or (gb_not (gb_truth (ge_isi1 (u := "tuple") (by rfl) B.isinstance (by decide) (pe_bltn (by rfl) B.tuple boot_tuple (by rfl)) (gv 1) (by rfl) (by rfl) (by rfl)) (fun _ => rfl))) (gb_or1 (gb_cmp hu (by rfl) (gc_len (by rfl) (gl_one (gv 1)) (by rfl) (by rfl) (by rfl) B.len) (gc_len (by rfl) (gl_one (gv 0)) (by rfl) (by rfl) (by rfl) B.len)))).pt
 (gs_cons (gs_ret gn_bl)
 gs_nil)
 gs_nil)
 (gs_cons (gs_ret (gc_all (by rfl) (gl_one (ge_comp (own := [("m", 2)]) (t := (.name 2)) (by rfl) hnd (gi_seq (gv 1)) (blkOk_by (by rfl)) (fun _ _ _ _ _ => (gg_name (i := 2) hnd (by rfl) (by first | exact Or.inl rfl | exact Or.inr rfl) (by first | exact Or.inl rfl | exact Or.inr rfl))) (fun _ _ _ _ _ => gts_nil) (fun _ _ _ _ _ => (ge_and (ge_call (by exact cis_integer.cald) (hr.mono (by decide)) takesW (by rfl) (gl_one (gv 2)) (by decide) (by rfl) (by rfl)) (ge_one1 (ge_chain hu (by rfl) (ge_neg (ge_cst C.kMOST_WEIGHT (by rfl) (by decide))) (gv 2) (ge_cst C.kMOST_WEIGHT (by rfl) (by decide)))))) (fun _ => rfl) (by decide))) (by rfl) (by rfl) (by rfl) B.all))
 gs_nil))
/-! ### check_weighted -/
abbrev stcheck_weighted : Stmt := top 13
def Tcheck_weighted : SS :=
 (sSeq2 (sExpr (sArgs Fcheck_points (sCons (sVar 0) sNil)))
 (sSeq2 (sIfS (sNotB (sB (sArgs Fis_weight_row (sCons (sVar 0) (sCons (sVar 1) sNil)))))
 (sSeq2 (sRaise "Malformed" [])
 sSkip)
 sSkip)
 sSkip))
def Fcheck_weighted : List AV → Mem → Out AV := fnRun 2 2 Tcheck_weighted
theorem sccheck_weighted : FnScope ["points", "row"] ["points", "row"] (defScope stcheck_weighted) := C8.fnScope_by rfl
theorem okcheck_weighted {P : Program} {w : World} {K : PySem.W.Frag} {mg : Str → Option Value} {base : Heap} {f CM CR fR : Addr} {fd : FuncData} (F : Fun K "check_weighted" "check_weighted" stcheck_weighted f fd) (T : Errs P K mg CM CR fR) (ccheck_points : CalD P w K mg base 4 "check_points" Fcheck_points) (cis_weight_row : CalD P w K mg base 2 "is_weight_row" Fis_weight_row) : FnOk P w K mg base (L2.CX P w) 5 f fd ["points", "row"] (spOf ⟨K, mg⟩ Fcheck_weighted) := by
  refine fn_ok (N := ["points", "row"]) F sccheck_weighted (fun cdv A outer s H E hr => ?_)
  have hnd : (["points", "row"] : List Str).Nodup := sccheck_weighted.nd
  have hu : (A.deeper (envOfC "check_weighted" (defScope stcheck_weighted) s.heap.objs.size f cdv)).units + 65 < cLine := by have := hr.un; omega
  have tk : Takes (cxf P w K mg base ["points", "row"] "check_weighted" stcheck_weighted f cdv A outer s H E) (fun cls d _ H' => E cls d H') := takes_of rfl rfl rfl rfl
  have po : PassesOwn (model P w) (cxf P w K mg base ["points", "row"] "check_weighted" stcheck_weighted f cdv A outer s H E).A (cxf P w K mg base ["points", "row"] "check_weighted" stcheck_weighted f cdv A outer s H E).env (cxf P w K mg base ["points", "row"] "check_weighted" stcheck_weighted f cdv A outer s H E).xe := passes_of rfl
  exact (gs_cons (gs_expr (ge_call (by exact ccheck_points.cald) (hr.mono (by decide)) tk (by rfl) (gl_one (gv 0)) (by decide) (by rfl) (by rfl)) (by rfl))
 (gs_cons (gs_if (gb_not (gb_truth (ge_call (by exact cis_weight_row.cald) (hr.mono (by decide)) tk (by rfl) (gl_more (gv 0) (gl_one (gv 1))) (by decide) (by rfl) (by rfl)) (fun _ => rfl)))
 (gs_cons (gs_rM T (by rfl) tk (by rfl))
 gs_nil)
 gs_nil)
 gs_nil))
/-! ### excess_list -/
abbrev stexcess_list : Stmt := top 14
def Texcess_list : SS :=
 (sSeq2 (sAsg 2 true (sArgs listOp (sCons (sVar 1) sNil)))
 (sSeq2 (sFor (sItm enumItm2 (sCons (sVar 1) sNil)) (.tup (.cons (.name 3) (.cons (.name 4) .nil)))
 (sSeq2 (sFor (sSeq (sIdx (sVar 0) (sVar 3))) (.name 5)
 (sSeq2 (sAugI .Sub (sVar 2) (sVar 5) (sVar 4))
 sSkip))
 sSkip))
 (sSeq2 (sRet (sVar 2))
 sSkip)))
def Fexcess_list : List AV → Mem → Out AV := fnRun 2 6 Texcess_list
theorem scexcess_list : FnScope ["points", "row", "found", "q", "m", "p"] ["points", "row"] (defScope stexcess_list) := C8.fnScope_by rfl
theorem okexcess_list {P : Program} {w : World} {K : PySem.W.Frag} {mg : Str → Option Value} {base : Heap} {f : Addr} {fd : FuncData} (F : Fun K "excess_list" "excess_list" stexcess_list f fd) (B : Bn mg) : FnOk P w K mg base (L2.CX P w) 1 f fd ["points", "row"] (spOf ⟨K, mg⟩ Fexcess_list) := by
  refine fn_ok (N := ["points", "row", "found", "q", "m", "p"]) F scexcess_list (fun cdv A outer s H E hr => ?_)
  have hnd : (["points", "row", "found", "q", "m", "p"] : List Str).Nodup := scexcess_list.nd
  have hu : (A.deeper (envOfC "excess_list" (defScope stexcess_list) s.heap.objs.size f cdv)).units + 65 < cLine := by have := hr.un; omega
  have tk : Takes (cxf P w K mg base ["points", "row", "found", "q", "m", "p"] "excess_list" stexcess_list f cdv A outer s H E) (fun cls d _ H' => E cls d H') := takes_of rfl rfl rfl rfl
  have po : PassesOwn (model P w) (cxf P w K mg base ["points", "row", "found", "q", "m", "p"] "excess_list" stexcess_list f cdv A outer s H E).A (cxf P w K mg base ["points", "row", "found", "q", "m", "p"] "excess_list" stexcess_list f cdv A outer s H E).env (cxf P w K mg base ["points", "row", "found", "q", "m", "p"] "excess_list" stexcess_list f cdv A outer s H E).xe := passes_of rfl
  exact (gs_cons (gs_asg (i := 2) (m := true) hnd (by rfl) (by first | exact Or.inl rfl | exact Or.inr rfl) (gc_list (by rfl) (gl_one (gv 1)) (by rfl) (by rfl) (by rfl) B.list) (by rfl) (.inl rfl))
 (gs_cons (gs_for (t := (.tup (.cons (.name 3) (.cons (.name 4) .nil)))) po (by rfl) (gi_enum2 (by rfl) B.enumerate (by rfl) (gl_one (gv 1))) (gg_tup (n := 2) (by rfl) (gg_cons (gg_name (i := 3) hnd (by rfl) (by first | exact Or.inl rfl | exact Or.inr rfl) (by first | exact Or.inl rfl | exact Or.inr rfl)) (gg_cons (gg_name (i := 4) hnd (by rfl) (by first | exact Or.inl rfl | exact Or.inr rfl) (by first | exact Or.inl rfl | exact Or.inr rfl)) gg_nil (by rfl)) (by rfl)) (by rfl) (by rfl) (tg_lenS (tg_lenS tg_len0)))
 (gs_cons (gs_for (t := (.name 5)) po (by rfl) (gi_seq (ge_idx (fun _ _ => rfl) (gv 0) (gv 3))) (gg_name (i := 5) hnd (by rfl) (by first | exact Or.inl rfl | exact Or.inr rfl) (by first | exact Or.inl rfl | exact Or.inr rfl))
 (gs_cons (gs_augI (gv 2) (gv 5) (gv 4) (fun _ _ _ => rfl))
 gs_nil) (fun _ => rfl))
 gs_nil) (fun _ => rfl))
 (gs_cons (gs_ret (gv 2))
 gs_nil)))
/-! ### multiplicities_from -/
abbrev stmultiplicities_from : Stmt := top 16
def Tmultiplicities_from : SS :=
 (sSeq2 (sRet (sComp (sItm enumItm2 (sCons (sVar 0) sNil)) (.tup (.cons (.name 2) (.cons (.name 3) .nil))) sYes (sBin .Sub (sIdx (sVar 1) (sVar 2)) (sArgs sumOp (sCons (sComp (sSeq (sVar 3)) (.name 4) sYes (sIdx (sVar 1) (sVar 4)) (([("q", 4)] : List (Str × Nat)).map (·.2))) sNil))) (([("p", 2), ("row", 3)] : List (Str × Nat)).map (·.2))))
 sSkip)
def Fmultiplicities_from : List AV → Mem → Out AV := fnRun 2 5 Tmultiplicities_from
theorem scmultiplicities_from : FnScope ["points", "v", "p", "row", "q"] ["points", "v"] (defScope stmultiplicities_from) := C8.fnScope_by rfl
theorem okmultiplicities_from {P : Program} {w : World} {K : PySem.W.Frag} {mg : Str → Option Value} {base : Heap} {f : Addr} {fd : FuncData} (F : Fun K "multiplicities_from" "multiplicities_from" stmultiplicities_from f fd) (B : Bn mg) : FnOk P w K mg base (L2.CX P w) 1 f fd ["points", "v"] (spOf ⟨K, mg⟩ Fmultiplicities_from) := by
  refine fn_ok (N := ["points", "v", "p", "row", "q"]) F scmultiplicities_from (fun cdv A outer s H E hr => ?_)
  have hnd : (["points", "v", "p", "row", "q"] : List Str).Nodup := scmultiplicities_from.nd
  have hu : (A.deeper (envOfC "multiplicities_from" (defScope stmultiplicities_from) s.heap.objs.size f cdv)).units + 65 < cLine := by have := hr.un; omega
  have tk : Takes (cxf P w K mg base ["points", "v", "p", "row", "q"] "multiplicities_from" stmultiplicities_from f cdv A outer s H E) (fun cls d _ H' => E cls d H') := takes_of rfl rfl rfl rfl
  have po : PassesOwn (model P w) (cxf P w K mg base ["points", "v", "p", "row", "q"] "multiplicities_from" stmultiplicities_from f cdv A outer s H E).A (cxf P w K mg base ["points", "v", "p", "row", "q"] "multiplicities_from" stmultiplicities_from f cdv A outer s H E).env (cxf P w K mg base ["points", "v", "p", "row", "q"] "multiplicities_from" stmultiplicities_from f cdv A outer s H E).xe := passes_of rfl
  exact (gs_cons (gs_ret (ge_comp (own := [("p", 2), ("row", 3)]) (t := (.tup (.cons (.name 2) (.cons (.name 3) .nil)))) (by rfl) hnd (gi_enum2 (by rfl) B.enumerate (by rfl) (gl_one (gv 0))) (blkOk_by (by rfl)) (fun _ _ _ _ _ => (gg_tup (n := 2) (by rfl) (gg_cons (gg_name (i := 2) hnd (by rfl) (by first | exact Or.inl rfl | exact Or.inr rfl) (by first | exact Or.inl rfl | exact Or.inr rfl)) (gg_cons (gg_name (i := 3) hnd (by rfl) (by first | exact Or.inl rfl | exact Or.inr rfl) (by first | exact Or.inl rfl | exact Or.inr rfl)) gg_nil (by rfl)) (by rfl)) (by rfl) (by rfl) (tg_lenS (tg_lenS tg_len0)))) (fun _ _ _ _ _ => gts_nil) (fun _ _ _ _ _ => (ge_bin (ge_idx (fun _ _ => rfl) (gv 1) (gv 2)) (gc_sum (by rfl) (gl_one (ge_comp (own := [("q", 4)]) (t := (.name 4)) (by rfl) hnd (gi_seq (gv 3)) (blkOk_by (by rfl)) (fun _ _ _ _ _ => (gg_name (i := 4) hnd (by rfl) (by first | exact Or.inl rfl | exact Or.inr rfl) (by first | exact Or.inl rfl | exact Or.inr rfl))) (fun _ _ _ _ _ => gts_nil) (fun _ _ _ _ _ => (ge_idx (fun _ _ => rfl) (gv 1) (gv 4))) (fun _ => rfl) (by decide))) (by rfl) (by rfl) (by rfl) B.sum))) (fun _ => rfl) (by decide)))
 gs_nil)
/-! ### excesses_from -/
abbrev stexcesses_from : Stmt := top 17
def Texcesses_from : SS :=
 (sSeq2 (sRet (sArgs Fexcess_list (sCons (sVar 0) (sCons (sArgs Fmultiplicities_from (sCons (sVar 0) (sCons (sVar 1) sNil))) sNil))))
 sSkip)
def Fexcesses_from : List AV → Mem → Out AV := fnRun 2 2 Texcesses_from
theorem scexcesses_from : FnScope ["points", "v"] ["points", "v"] (defScope stexcesses_from) := C8.fnScope_by rfl
theorem okexcesses_from {P : Program} {w : World} {K : PySem.W.Frag} {mg : Str → Option Value} {base : Heap} {f : Addr} {fd : FuncData} (F : Fun K "excesses_from" "excesses_from" stexcesses_from f fd) (cexcess_list : CalD P w K mg base 1 "excess_list" Fexcess_list) (cmultiplicities_from : CalD P w K mg base 1 "multiplicities_from" Fmultiplicities_from) : FnOk P w K mg base (L2.CX P w) 2 f fd ["points", "v"] (spOf ⟨K, mg⟩ Fexcesses_from) := by
  refine fn_ok (N := ["points", "v"]) F scexcesses_from (fun cdv A outer s H E hr => ?_)
  have hnd : (["points", "v"] : List Str).Nodup := scexcesses_from.nd
  have hu : (A.deeper (envOfC "excesses_from" (defScope stexcesses_from) s.heap.objs.size f cdv)).units + 65 < cLine := by have := hr.un; omega
  have tk : Takes (cxf P w K mg base ["points", "v"] "excesses_from" stexcesses_from f cdv A outer s H E) (fun cls d _ H' => E cls d H') := takes_of rfl rfl rfl rfl
  have po : PassesOwn (model P w) (cxf P w K mg base ["points", "v"] "excesses_from" stexcesses_from f cdv A outer s H E).A (cxf P w K mg base ["points", "v"] "excesses_from" stexcesses_from f cdv A outer s H E).env (cxf P w K mg base ["points", "v"] "excesses_from" stexcesses_from f cdv A outer s H E).xe := passes_of rfl
  exact (gs_cons (gs_ret (ge_call (by exact cexcess_list.cald) (hr.mono (by decide)) tk (by rfl) (gl_more (gv 0) (gl_one (ge_call (by exact cmultiplicities_from.cald) (hr.mono (by decide)) tk (by rfl) (gl_more (gv 0) (gl_one (gv 1))) (by decide) (by rfl) (by rfl)))) (by decide) (by rfl) (by rfl)))
 gs_nil)
/-! ### own_meetings -/
abbrev stown_meetings : Stmt := top 18
def Town_meetings : SS :=
 (sSeq2 (sAsg 1 true (sBin .Mult (sLst (sCons (sCon (.int 1)) sNil)) (sArgs lenOp (sCons (sVar 0) sNil))))
 (sSeq2 (sFor (sSeq (sVar 0)) (.name 2)
 (sSeq2 (sFor (sSeq (sVar 2)) (.name 3)
 (sSeq2 (sAugI .Add (sVar 1) (sVar 3) (sCon (.int 1)))
 sSkip))
 sSkip))
 (sSeq2 (sRet (sVar 1))
 sSkip)))
def Fown_meetings : List AV → Mem → Out AV := fnRun 1 4 Town_meetings
theorem scown_meetings : FnScope ["points", "found", "row", "q"] ["points"] (defScope stown_meetings) := C8.fnScope_by rfl
theorem okown_meetings {P : Program} {w : World} {K : PySem.W.Frag} {mg : Str → Option Value} {base : Heap} {f : Addr} {fd : FuncData} (F : Fun K "own_meetings" "own_meetings" stown_meetings f fd) (B : Bn mg) : FnOk P w K mg base (L2.CX P w) 1 f fd ["points"] (spOf ⟨K, mg⟩ Fown_meetings) := by
  refine fn_ok (N := ["points", "found", "row", "q"]) F scown_meetings (fun cdv A outer s H E hr => ?_)
  have hnd : (["points", "found", "row", "q"] : List Str).Nodup := scown_meetings.nd
  have hu : (A.deeper (envOfC "own_meetings" (defScope stown_meetings) s.heap.objs.size f cdv)).units + 65 < cLine := by have := hr.un; omega
  have tk : Takes (cxf P w K mg base ["points", "found", "row", "q"] "own_meetings" stown_meetings f cdv A outer s H E) (fun cls d _ H' => E cls d H') := takes_of rfl rfl rfl rfl
  have po : PassesOwn (model P w) (cxf P w K mg base ["points", "found", "row", "q"] "own_meetings" stown_meetings f cdv A outer s H E).A (cxf P w K mg base ["points", "found", "row", "q"] "own_meetings" stown_meetings f cdv A outer s H E).env (cxf P w K mg base ["points", "found", "row", "q"] "own_meetings" stown_meetings f cdv A outer s H E).xe := passes_of rfl
  exact (gs_cons (gs_asg (i := 1) (m := true) hnd (by rfl) (by first | exact Or.inl rfl | exact Or.inr rfl) (ge_bin (ge_lst (gl_one gn_int)) (gc_len (by rfl) (gl_one (gv 0)) (by rfl) (by rfl) (by rfl) B.len)) (by rfl) (.inl rfl))
 (gs_cons (gs_for (t := (.name 2)) po (by rfl) (gi_seq (gv 0)) (gg_name (i := 2) hnd (by rfl) (by first | exact Or.inl rfl | exact Or.inr rfl) (by first | exact Or.inl rfl | exact Or.inr rfl))
 (gs_cons (gs_for (t := (.name 3)) po (by rfl) (gi_seq (gv 2)) (gg_name (i := 3) hnd (by rfl) (by first | exact Or.inl rfl | exact Or.inr rfl) (by first | exact Or.inl rfl | exact Or.inr rfl))
 (gs_cons (gs_augI (gv 1) (gv 3) gn_int (fun _ _ _ => rfl))
 gs_nil) (fun _ => rfl))
 gs_nil) (fun _ => rfl))
 (gs_cons (gs_ret (gv 1))
 gs_nil)))
/-! ### steps_from -/
abbrev ststeps_from : Stmt := top 19
def Tsteps_from : SS :=
 (sSeq2 (sPar3 2 3 4 true false true (sArgs listOp (sCons (sVar 1) sNil)) (sArgs Fown_meetings (sCons (sVar 0) sNil)) (sLst sNil))
 (sSeq2 (sWhile (sB (sCon (.bl true)))
 (sSeq2 (sAsg 5 false (sArgs Fexcesses_from (sCons (sVar 0) (sCons (sVar 2) sNil))))
 (sSeq2 (sAsg 6 false (sComp (sRng (sCons (sArgs lenOp (sCons (sVar 0) sNil)) sNil)) (.name 8) (sB (sCmp .Lt (sIdx (sVar 5) (sVar 8)) (sCon (.int 0)))) (sVar 8) (([("p", 8)] : List (Str × Nat)).map (·.2))))
 (sSeq2 (sIfS (sB (sCmp .Eq (sArgs lenOp (sCons (sVar 6) sNil)) (sCon (.int 0))))
 (sSeq2 (sRet (sTup (sCons (sVar 4) (sCons (sVar 2) sNil))))
 sSkip)
 sSkip)
 (sSeq2 (sAsg 7 false (sNeg (sBin .FloorDiv (sIdx (sVar 5) (sIdx (sVar 6) (sCon (.int 0)))) (sIdx (sVar 3) (sIdx (sVar 6) (sCon (.int 0)))))))
 (sSeq2 (sAugI .Add (sVar 2) (sIdx (sVar 6) (sCon (.int 0))) (sVar 7))
 (sSeq2 (sExpr (sMeth mAppend (sVar 4) (sCons (sTup (sCons (sIdx (sVar 6) (sCon (.int 0))) (sCons (sVar 7) sNil))) sNil)))
 sSkip)))))))
 sSkip))
def Fsteps_from : List AV → Mem → Out AV := fnRun 2 9 Tsteps_from
theorem scsteps_from : FnScope ["points", "v", "w", "grow", "steps", "excesses", "low", "n", "p"] ["points", "v"] (defScope ststeps_from) := C8.fnScope_by rfl
theorem oksteps_from {P : Program} {w : World} {K : PySem.W.Frag} {mg : Str → Option Value} {base : Heap} {f : Addr} {fd : FuncData} (F : Fun K "steps_from" "steps_from" ststeps_from f fd) (B : Bn mg) (cexcesses_from : CalD P w K mg base 2 "excesses_from" Fexcesses_from) (cown_meetings : CalD P w K mg base 1 "own_meetings" Fown_meetings) : FnOk P w K mg base (L2.CX P w) 3 f fd ["points", "v"] (spOf ⟨K, mg⟩ Fsteps_from) := by
  refine fn_ok (N := ["points", "v", "w", "grow", "steps", "excesses", "low", "n", "p"]) F scsteps_from (fun cdv A outer s H E hr => ?_)
  have hnd : (["points", "v", "w", "grow", "steps", "excesses", "low", "n", "p"] : List Str).Nodup := scsteps_from.nd
  have hu : (A.deeper (envOfC "steps_from" (defScope ststeps_from) s.heap.objs.size f cdv)).units + 65 < cLine := by have := hr.un; omega
  have tk : Takes (cxf P w K mg base ["points", "v", "w", "grow", "steps", "excesses", "low", "n", "p"] "steps_from" ststeps_from f cdv A outer s H E) (fun cls d _ H' => E cls d H') := takes_of rfl rfl rfl rfl
  have po : PassesOwn (model P w) (cxf P w K mg base ["points", "v", "w", "grow", "steps", "excesses", "low", "n", "p"] "steps_from" ststeps_from f cdv A outer s H E).A (cxf P w K mg base ["points", "v", "w", "grow", "steps", "excesses", "low", "n", "p"] "steps_from" ststeps_from f cdv A outer s H E).env (cxf P w K mg base ["points", "v", "w", "grow", "steps", "excesses", "low", "n", "p"] "steps_from" ststeps_from f cdv A outer s H E).xe := passes_of rfl
  exact (gs_cons (gs_par3 (i := 2) (j := 3) (l := 4) (m := true) (n := false) (o := true) (by rfl) hnd (by rfl) (by rfl) (by rfl) (by decide) (by decide) (by decide) (by rfl) (by rfl) (by rfl) (gc_list (by rfl) (gl_one (gv 1)) (by rfl) (by rfl) (by rfl) B.list) (ge_call (by exact cown_meetings.cald) (hr.mono (by decide)) tk (by rfl) (gl_one (gv 0)) (by decide) (by rfl) (by rfl)) (ge_lst gl_nil) (by rfl) (by rfl) (by rfl) (by rfl) (by rfl))
 (gs_cons (gs_while po (gb_truth gn_bl (fun _ => rfl))
 (gs_cons (gs_asg (i := 5) (m := false) hnd (by rfl) (by first | exact Or.inl rfl | exact Or.inr rfl) (ge_call (by exact cexcesses_from.cald) (hr.mono (by decide)) tk (by rfl) (gl_more (gv 0) (gl_one (gv 2))) (by decide) (by rfl) (by rfl)) (by rfl) (.inl rfl))
 (gs_cons (gs_asgLc (i := 6) (m := false) (own := [("p", 8)]) (t := (.name 8)) (by rfl) hnd (by rfl) (by rfl) (by rfl) (gi_rng1 (by rfl) B.range (by rfl) (gl_one (gc_len (by rfl) (gl_one (gv 0)) (by rfl) (by rfl) (by rfl) B.len)) (sl_cons sl_nil)) (blkOk_by (by rfl)) (fun _ _ _ _ _ => (gg_name (i := 8) hnd (by rfl) (by first | exact Or.inl rfl | exact Or.inr rfl) (by first | exact Or.inl rfl | exact Or.inr rfl))) (fun _ _ _ _ _ => gts_one (gb_cmp hu (by rfl) (ge_idx (fun _ _ => rfl) (gv 5) (gv 8)) gn_int)) (fun _ _ _ _ _ => (gv 8)) (fun _ => rfl) (by decide))
 (gs_cons (gs_if (gb_cmp hu (by rfl) (gc_len (by rfl) (gl_one (gv 6)) (by rfl) (by rfl) (by rfl) B.len) gn_int)
 (gs_cons (gs_ret (ge_tup (gl_more (gv 4) (gl_one (gv 2)))))
 gs_nil)
 gs_nil)
 (gs_cons (gs_asg (i := 7) (m := false) hnd (by rfl) (by first | exact Or.inl rfl | exact Or.inr rfl) (ge_neg (ge_bin (ge_idx (fun _ _ => rfl) (gv 5) (ge_idx (fun _ _ => rfl) (gv 6) gn_int)) (ge_idx (fun _ _ => rfl) (gv 3) (ge_idx (fun _ _ => rfl) (gv 6) gn_int)))) (by rfl) (.inl rfl))
 (gs_cons (gs_augI (gv 2) (ge_idx (fun _ _ => rfl) (gv 6) gn_int) (gv 7) (fun _ _ _ => rfl))
 (gs_cons (gs_expr (gm_append (gv 4) (gl_one (ge_tup (gl_more (ge_idx (fun _ _ => rfl) (gv 6) gn_int) (gl_one (gv 7))))) (by rfl) (by rfl) (by rfl) (by rfl) (by rfl)) (by rfl))
 gs_nil)))))))
 gs_nil))
/-! ### unloaded -/
abbrev stunloaded : Stmt := top 20
def Tunloaded : SS :=
 (sSeq2 (sExpr (sArgs Fcheck_weighted (sCons (sVar 0) (sCons (sVar 1) sNil))))
 (sSeq2 (sRet (sArgs tupleOp (sCons (sIdx (sArgs Fsteps_from (sCons (sVar 0) (sCons (sVar 1) sNil))) (sCon (.int 1))) sNil)))
 sSkip))
def Funloaded : List AV → Mem → Out AV := fnRun 2 2 Tunloaded
theorem scunloaded : FnScope ["points", "v"] ["points", "v"] (defScope stunloaded) := C8.fnScope_by rfl
theorem okunloaded {P : Program} {w : World} {K : PySem.W.Frag} {mg : Str → Option Value} {base : Heap} {f : Addr} {fd : FuncData} (F : Fun K "unloaded" "unloaded" stunloaded f fd) (B : Bn mg) (ccheck_weighted : CalD P w K mg base 5 "check_weighted" Fcheck_weighted) (csteps_from : CalD P w K mg base 3 "steps_from" Fsteps_from) : FnOk P w K mg base (L2.CX P w) 6 f fd ["points", "v"] (spOf ⟨K, mg⟩ Funloaded) := by
  refine fn_ok (N := ["points", "v"]) F scunloaded (fun cdv A outer s H E hr => ?_)
  have hnd : (["points", "v"] : List Str).Nodup := scunloaded.nd
  have hu : (A.deeper (envOfC "unloaded" (defScope stunloaded) s.heap.objs.size f cdv)).units + 65 < cLine := by have := hr.un; omega
  have tk : Takes (cxf P w K mg base ["points", "v"] "unloaded" stunloaded f cdv A outer s H E) (fun cls d _ H' => E cls d H') := takes_of rfl rfl rfl rfl
  have po : PassesOwn (model P w) (cxf P w K mg base ["points", "v"] "unloaded" stunloaded f cdv A outer s H E).A (cxf P w K mg base ["points", "v"] "unloaded" stunloaded f cdv A outer s H E).env (cxf P w K mg base ["points", "v"] "unloaded" stunloaded f cdv A outer s H E).xe := passes_of rfl
  exact (gs_cons (gs_expr (ge_call (by exact ccheck_weighted.cald) (hr.mono (by decide)) tk (by rfl) (gl_more (gv 0) (gl_one (gv 1))) (by decide) (by rfl) (by rfl)) (by rfl))
 (gs_cons (gs_ret (gc_tuple (by rfl) (gl_one (ge_idx (fun _ _ => rfl) (ge_call (by exact csteps_from.cald) (hr.mono (by decide)) tk (by rfl) (gl_more (gv 0) (gl_one (gv 1))) (by decide) (by rfl) (by rfl)) gn_int)) (by rfl) (by rfl) (by rfl) B.tuple))
 gs_nil))
/-! ### codimension_of -/
abbrev stcodimension_of : Stmt := top 21
def Tcodimension_of : SS :=
 (sSeq2 (sRet (sArgs sumOp (sCons (sComp (sSeq (sArgs Fmultiplicities_from (sCons (sVar 0) (sCons (sVar 1) sNil)))) (.name 2) sYes (sBin .FloorDiv (sBin .Mult (sVar 2) (sBin .Add (sVar 2) (sCon (.int 1)))) (sCon (.int 2))) (([("m", 2)] : List (Str × Nat)).map (·.2))) sNil)))
 sSkip)
def Fcodimension_of : List AV → Mem → Out AV := fnRun 2 3 Tcodimension_of
theorem sccodimension_of : FnScope ["points", "v", "m"] ["points", "v"] (defScope stcodimension_of) := C8.fnScope_by rfl
theorem okcodimension_of {P : Program} {w : World} {K : PySem.W.Frag} {mg : Str → Option Value} {base : Heap} {f : Addr} {fd : FuncData} (F : Fun K "codimension_of" "codimension_of" stcodimension_of f fd) (B : Bn mg) (cmultiplicities_from : CalD P w K mg base 1 "multiplicities_from" Fmultiplicities_from) : FnOk P w K mg base (L2.CX P w) 2 f fd ["points", "v"] (spOf ⟨K, mg⟩ Fcodimension_of) := by
  refine fn_ok (N := ["points", "v", "m"]) F sccodimension_of (fun cdv A outer s H E hr => ?_)
  have hnd : (["points", "v", "m"] : List Str).Nodup := sccodimension_of.nd
  have hu : (A.deeper (envOfC "codimension_of" (defScope stcodimension_of) s.heap.objs.size f cdv)).units + 65 < cLine := by have := hr.un; omega
  have tk : Takes (cxf P w K mg base ["points", "v", "m"] "codimension_of" stcodimension_of f cdv A outer s H E) (fun cls d _ H' => E cls d H') := takes_of rfl rfl rfl rfl
  have po : PassesOwn (model P w) (cxf P w K mg base ["points", "v", "m"] "codimension_of" stcodimension_of f cdv A outer s H E).A (cxf P w K mg base ["points", "v", "m"] "codimension_of" stcodimension_of f cdv A outer s H E).env (cxf P w K mg base ["points", "v", "m"] "codimension_of" stcodimension_of f cdv A outer s H E).xe := passes_of rfl
  exact (gs_cons (gs_ret (gc_sum (by rfl) (gl_one (ge_comp (own := [("m", 2)]) (t := (.name 2)) (by rfl) hnd (gi_seq (ge_call (by exact cmultiplicities_from.cald) (hr.mono (by decide)) tk (by rfl) (gl_more (gv 0) (gl_one (gv 1))) (by decide) (by rfl) (by rfl))) (blkOk_by (by rfl)) (fun _ _ _ _ _ => (gg_name (i := 2) hnd (by rfl) (by first | exact Or.inl rfl | exact Or.inr rfl) (by first | exact Or.inl rfl | exact Or.inr rfl))) (fun _ _ _ _ _ => gts_nil) (fun _ _ _ _ _ => (ge_bin (ge_bin (gv 2) (ge_bin (gv 2) gn_int)) gn_int)) (fun _ => rfl) (by decide))) (by rfl) (by rfl) (by rfl) B.sum))
 gs_nil)
/-! ### check_values -/
abbrev stcheck_values : Stmt := top 22
def Tcheck_values : SS :=
 (sSeq2 (sExpr (sArgs Fcheck_weighted (sCons (sVar 0) (sCons (sVar 1) sNil))))
 (sSeq2 (sIfS (sB (sCmp .Lt (sArgs minOp2 (sCons (sVar 1) sNil)) (sCon (.int 0))))
 (sSeq2 (sRaise "Malformed" [])
 sSkip)
 sSkip)
 sSkip))
def Fcheck_values : List AV → Mem → Out AV := fnRun 2 2 Tcheck_values
theorem sccheck_values : FnScope ["points", "v"] ["points", "v"] (defScope stcheck_values) := C8.fnScope_by rfl
theorem okcheck_values {P : Program} {w : World} {K : PySem.W.Frag} {mg : Str → Option Value} {base : Heap} {f CM CR fR : Addr} {fd : FuncData} (F : Fun K "check_values" "check_values" stcheck_values f fd) (B : Bn mg) (T : Errs P K mg CM CR fR) (ccheck_weighted : CalD P w K mg base 5 "check_weighted" Fcheck_weighted) : FnOk P w K mg base (L2.CX P w) 6 f fd ["points", "v"] (spOf ⟨K, mg⟩ Fcheck_values) := by
  refine fn_ok (N := ["points", "v"]) F sccheck_values (fun cdv A outer s H E hr => ?_)
  have hnd : (["points", "v"] : List Str).Nodup := sccheck_values.nd
  have hu : (A.deeper (envOfC "check_values" (defScope stcheck_values) s.heap.objs.size f cdv)).units + 65 < cLine := by have := hr.un; omega
  have tk : Takes (cxf P w K mg base ["points", "v"] "check_values" stcheck_values f cdv A outer s H E) (fun cls d _ H' => E cls d H') := takes_of rfl rfl rfl rfl
  have po : PassesOwn (model P w) (cxf P w K mg base ["points", "v"] "check_values" stcheck_values f cdv A outer s H E).A (cxf P w K mg base ["points", "v"] "check_values" stcheck_values f cdv A outer s H E).env (cxf P w K mg base ["points", "v"] "check_values" stcheck_values f cdv A outer s H E).xe := passes_of rfl
  exact (gs_cons (gs_expr (ge_call (by exact ccheck_weighted.cald) (hr.mono (by decide)) tk (by rfl) (gl_more (gv 0) (gl_one (gv 1))) (by decide) (by rfl) (by rfl)) (by rfl))
 (gs_cons (gs_if (gb_cmp hu (by rfl) (gc_min2 hu (by rfl) (gl_one (gv 1)) (by rfl) (by rfl) (by rfl) B.min) gn_int)
 (gs_cons (gs_rM T (by rfl) tk (by rfl))
 gs_nil)
 gs_nil)
 gs_nil))
/-! ### ideal_codimension -/
abbrev stideal_codimension : Stmt := top 23
def Tideal_codimension : SS :=
 (sSeq2 (sExpr (sArgs Fcheck_values (sCons (sVar 0) (sCons (sVar 1) sNil))))
 (sSeq2 (sRet (sArgs Fcodimension_of (sCons (sVar 0) (sCons (sIdx (sArgs Fsteps_from (sCons (sVar 0) (sCons (sVar 1) sNil))) (sCon (.int 1))) sNil))))
 sSkip))
def Fideal_codimension : List AV → Mem → Out AV := fnRun 2 2 Tideal_codimension
theorem scideal_codimension : FnScope ["points", "v"] ["points", "v"] (defScope stideal_codimension) := C8.fnScope_by rfl
theorem okideal_codimension {P : Program} {w : World} {K : PySem.W.Frag} {mg : Str → Option Value} {base : Heap} {f : Addr} {fd : FuncData} (F : Fun K "ideal_codimension" "ideal_codimension" stideal_codimension f fd) (ccheck_values : CalD P w K mg base 6 "check_values" Fcheck_values) (ccodimension_of : CalD P w K mg base 2 "codimension_of" Fcodimension_of) (csteps_from : CalD P w K mg base 3 "steps_from" Fsteps_from) : FnOk P w K mg base (L2.CX P w) 7 f fd ["points", "v"] (spOf ⟨K, mg⟩ Fideal_codimension) := by
  refine fn_ok (N := ["points", "v"]) F scideal_codimension (fun cdv A outer s H E hr => ?_)
  have hnd : (["points", "v"] : List Str).Nodup := scideal_codimension.nd
  have hu : (A.deeper (envOfC "ideal_codimension" (defScope stideal_codimension) s.heap.objs.size f cdv)).units + 65 < cLine := by have := hr.un; omega
  have tk : Takes (cxf P w K mg base ["points", "v"] "ideal_codimension" stideal_codimension f cdv A outer s H E) (fun cls d _ H' => E cls d H') := takes_of rfl rfl rfl rfl
  have po : PassesOwn (model P w) (cxf P w K mg base ["points", "v"] "ideal_codimension" stideal_codimension f cdv A outer s H E).A (cxf P w K mg base ["points", "v"] "ideal_codimension" stideal_codimension f cdv A outer s H E).env (cxf P w K mg base ["points", "v"] "ideal_codimension" stideal_codimension f cdv A outer s H E).xe := passes_of rfl
  exact (gs_cons (gs_expr (ge_call (by exact ccheck_values.cald) (hr.mono (by decide)) tk (by rfl) (gl_more (gv 0) (gl_one (gv 1))) (by decide) (by rfl) (by rfl)) (by rfl))
 (gs_cons (gs_ret (ge_call (by exact ccodimension_of.cald) (hr.mono (by decide)) tk (by rfl) (gl_more (gv 0) (gl_one (ge_idx (fun _ _ => rfl) (ge_call (by exact csteps_from.cald) (hr.mono (by decide)) tk (by rfl) (gl_more (gv 0) (gl_one (gv 1))) (by decide) (by rfl) (by rfl)) gn_int))) (by decide) (by rfl) (by rfl)))
 gs_nil))
/-! ### _law_state -/
abbrev st_law_state : Stmt := top 25
def T_law_state : SS :=
 (sSeq2 (sAsg 1 false (sCon (.int 0)))
 (sSeq2 (sAsg 2 false (sCon (.int 1)))
 (sSeq2 (sFor (sSeq (sSlice (sVar 0) none (some (sCon (.int 63))))) (.name 3)
 (sSeq2 (sAsg 1 false (sBin .Add (sBin .Mult (sVar 1) (sCon (.int 1000003))) (sArgs absOp (sCons (sVar 3) sNil))))
 (sSeq2 (sAsg 2 false (sBin .Mod (sArgs intOp (sCons (sBin .Add (sBin .Mult (sVar 2) (sCon (.int 48271))) (sVar 3)) sNil)) (sCon (.int 2147483647))))
 sSkip)))
 (sSeq2 (sRet (sLst (sCons (sVar 1) (sCons (sVar 2) sNil))))
 sSkip))))
def F_law_state : List AV → Mem → Out AV := fnRun 1 4 T_law_state
theorem sc_law_state : FnScope ["script", "seed", "total", "cell"] ["script"] (defScope st_law_state) := C8.fnScope_by rfl
theorem ok_law_state {P : Program} {w : World} {K : PySem.W.Frag} {mg : Str → Option Value} {base : Heap} {f : Addr} {fd : FuncData} (F : Fun K "_law_state" "_law_state" st_law_state f fd) (B : Bn mg) : FnOk P w K mg base (L2.CX P w) 1 f fd ["script"] (spOf ⟨K, mg⟩ F_law_state) := by
  refine fn_ok (N := ["script", "seed", "total", "cell"]) F sc_law_state (fun cdv A outer s H E hr => ?_)
  have hnd : (["script", "seed", "total", "cell"] : List Str).Nodup := sc_law_state.nd
  have hu : (A.deeper (envOfC "_law_state" (defScope st_law_state) s.heap.objs.size f cdv)).units + 65 < cLine := by have := hr.un; omega
  have tk : Takes (cxf P w K mg base ["script", "seed", "total", "cell"] "_law_state" st_law_state f cdv A outer s H E) (fun cls d _ H' => E cls d H') := takes_of rfl rfl rfl rfl
  have po : PassesOwn (model P w) (cxf P w K mg base ["script", "seed", "total", "cell"] "_law_state" st_law_state f cdv A outer s H E).A (cxf P w K mg base ["script", "seed", "total", "cell"] "_law_state" st_law_state f cdv A outer s H E).env (cxf P w K mg base ["script", "seed", "total", "cell"] "_law_state" st_law_state f cdv A outer s H E).xe := passes_of rfl
  exact (gs_cons (gs_asg (i := 1) (m := false) hnd (by rfl) (by first | exact Or.inl rfl | exact Or.inr rfl) gn_int (by rfl) (.inl rfl))
 (gs_cons (gs_asg (i := 2) (m := false) hnd (by rfl) (by first | exact Or.inl rfl | exact Or.inr rfl) gn_int (by rfl) (.inl rfl))
 (gs_cons (gs_for (t := (.name 3)) po (by rfl) (gi_seq (gk_01 (gv 0) gn_int)) (gg_name (i := 3) hnd (by rfl) (by first | exact Or.inl rfl | exact Or.inr rfl) (by first | exact Or.inl rfl | exact Or.inr rfl))
 (gs_cons (gs_asg (i := 1) (m := false) hnd (by rfl) (by first | exact Or.inl rfl | exact Or.inr rfl) (ge_bin (ge_bin (gv 1) gn_int) (gc_abs (by rfl) (gl_one (gv 3)) (by rfl) (by rfl) (by rfl) B.abs)) (by rfl) (.inl rfl))
 (gs_cons (gs_asg (i := 2) (m := false) hnd (by rfl) (by first | exact Or.inl rfl | exact Or.inr rfl) (ge_bin (gc_int (by rfl) (gl_one (ge_bin (ge_bin (gv 2) gn_int) (gv 3))) (by rfl) (by rfl) (by rfl) B.int) gn_int) (by rfl) (.inl rfl))
 gs_nil)) (fun _ => rfl))
 (gs_cons (gs_ret (ge_lst (gl_more (gv 1) (gl_one (gv 2)))))
 gs_nil))))
/-! ### _law_take -/
abbrev st_law_take : Stmt := top 26
def T_law_take : SS :=
 (sSeq2 (sIfS (sB (sCmp .Gt (sIdx (sVar 0) (sCon (.int 0))) (sCon (.int 0))))
 (sSeq2 (sAsg 2 false (sBin .Mod (sArgs intOp (sCons (sIdx (sVar 0) (sCon (.int 0))) sNil)) (sVar 1)))
 (sSeq2 (sSetI (sVar 0) (sCon (.int 0)) (sBin .FloorDiv (sIdx (sVar 0) (sCon (.int 0))) (sVar 1)))
 (sSeq2 (sRet (sVar 2))
 sSkip)))
 sSkip)
 (sSeq2 (sSetI (sVar 0) (sCon (.int 1)) (sBin .Mod (sArgs intOp (sCons (sBin .Add (sBin .Mult (sIdx (sVar 0) (sCon (.int 1))) (sCon (.int 48271))) (sCon (.int 11))) sNil)) (sCon (.int 2147483647))))
 (sSeq2 (sRet (sBin .Mod (sArgs intOp (sCons (sBin .FloorDiv (sIdx (sVar 0) (sCon (.int 1))) (sCon (.int 7))) sNil)) (sVar 1)))
 sSkip)))
def F_law_take : List AV → Mem → Out AV := fnRun 2 3 T_law_take
theorem sc_law_take : FnScope ["state", "m", "value"] ["state", "m"] (defScope st_law_take) := C8.fnScope_by rfl
theorem ok_law_take {P : Program} {w : World} {K : PySem.W.Frag} {mg : Str → Option Value} {base : Heap} {f : Addr} {fd : FuncData} (F : Fun K "_law_take" "_law_take" st_law_take f fd) (B : Bn mg) : FnOk P w K mg base (L2.CX P w) 1 f fd ["state", "m"] (spOf ⟨K, mg⟩ F_law_take) := by
  refine fn_ok (N := ["state", "m", "value"]) F sc_law_take (fun cdv A outer s H E hr => ?_)
  have hnd : (["state", "m", "value"] : List Str).Nodup := sc_law_take.nd
  have hu : (A.deeper (envOfC "_law_take" (defScope st_law_take) s.heap.objs.size f cdv)).units + 65 < cLine := by have := hr.un; omega
  have tk : Takes (cxf P w K mg base ["state", "m", "value"] "_law_take" st_law_take f cdv A outer s H E) (fun cls d _ H' => E cls d H') := takes_of rfl rfl rfl rfl
  have po : PassesOwn (model P w) (cxf P w K mg base ["state", "m", "value"] "_law_take" st_law_take f cdv A outer s H E).A (cxf P w K mg base ["state", "m", "value"] "_law_take" st_law_take f cdv A outer s H E).env (cxf P w K mg base ["state", "m", "value"] "_law_take" st_law_take f cdv A outer s H E).xe := passes_of rfl
  exact (gs_cons (gs_if (gb_cmp hu (by rfl) (ge_idx (fun _ _ => rfl) (gv 0) gn_int) gn_int)
 (gs_cons (gs_asg (i := 2) (m := false) hnd (by rfl) (by first | exact Or.inl rfl | exact Or.inr rfl) (ge_bin (gc_int (by rfl) (gl_one (ge_idx (fun _ _ => rfl) (gv 0) gn_int)) (by rfl) (by rfl) (by rfl) B.int) (gv 1)) (by rfl) (.inl rfl))
 (gs_cons (gs_setI' (ge_bin (ge_idx (fun _ _ => rfl) (gv 0) gn_int) (gv 1)) (gv 0) gn_int (by rfl) (by rfl) (by rfl) (fun _ => rfl))
 (gs_cons (gs_ret (gv 2))
 gs_nil)))
 gs_nil)
 (gs_cons (gs_setI' (ge_bin (gc_int (by rfl) (gl_one (ge_bin (ge_bin (ge_idx (fun _ _ => rfl) (gv 0) gn_int) gn_int) gn_int)) (by rfl) (by rfl) (by rfl) B.int) gn_int) (gv 0) gn_int (by rfl) (by rfl) (by rfl) (fun _ => rfl))
 (gs_cons (gs_ret (ge_bin (gc_int (by rfl) (gl_one (ge_bin (ge_idx (fun _ _ => rfl) (gv 0) gn_int) gn_int)) (by rfl) (by rfl) (by rfl) B.int) (gv 1)))
 gs_nil)))
/-! ### _law_same -/
abbrev st_law_same : Stmt := top 27
def T_law_same (self : List AV → Mem → Out AV) : SS :=
 (sSeq2 (sIfS (sB (sIsi ["tuple"] (sVar 1)))
 (sSeq2 (sRet (sAnd (sIsi ["tuple"] (sVar 0)) (sAnd (sCmp .Eq (sArgs lenOp (sCons (sVar 0) sNil)) (sArgs lenOp (sCons (sVar 1) sNil))) (sArgs allOp (sCons (sComp (sRng (sCons (sArgs lenOp (sCons (sVar 1) sNil)) sNil)) (.name 2) sYes (sArgs self (sCons (sIdx (sVar 0) (sVar 2)) (sCons (sIdx (sVar 1) (sVar 2)) sNil))) (([("k", 2)] : List (Str × Nat)).map (·.2))) sNil)))))
 sSkip)
 sSkip)
 (sSeq2 (sIfS (sB (sCmp .Is (sVar 1) (sCon .non)))
 (sSeq2 (sRet (sCmp .Is (sVar 0) (sCon .non)))
 sSkip)
 sSkip)
 (sSeq2 (sIfS (sB (sIsi ["bool"] (sVar 1)))
 (sSeq2 (sRet (sAnd (sIsi ["bool"] (sVar 0)) (sCmp .Eq (sVar 0) (sVar 1))))
 sSkip)
 sSkip)
 (sSeq2 (sIfS (sB (sIsi ["str"] (sVar 1)))
 (sSeq2 (sRet (sAnd (sIsi ["str"] (sVar 0)) (sCmp .Eq (sVar 0) (sVar 1))))
 sSkip)
 sSkip)
 (sSeq2 (sRet (sAnd (sIsi ["int"] (sVar 0)) (sAnd (sNot (sIsi ["bool"] (sVar 0))) (sCmp .Eq (sVar 0) (sVar 1)))))
 sSkip)))))
def F_law_same : Nat → List AV → Mem → Out AV
  | 0 => fun _ _ => .bad
  | n + 1 => fnRun 2 3 (T_law_same (F_law_same n))
theorem sc_law_same : FnScope ["value", "due", "k"] ["value", "due"] (defScope st_law_same) := C8.fnScope_by rfl
theorem ok_law_same {P : Program} {w : World} {K : PySem.W.Frag} {mg : Str → Option Value} {base : Heap} {f : Addr} {fd : FuncData} (F : Fun K "_law_same" "_law_same" st_law_same f fd) (B : Bn mg) (hm : mg "_law_same" = some (.ref f)) (hkp : PySem.W.keepIn K (.ref f) = true) (hb : Binds K fd ["value", "due"] []) : ∀ n : Nat, FnOk P w K mg base (L2.CX P w) (0 + n) f fd ["value", "due"] (spOf ⟨K, mg⟩ (F_law_same n))
  | 0 => ⟨fun vs H Q E ⟨W, Z, φ, M, avs, R, rs, h⟩ => h.elim, fun A outer s H args us vs Q E _ _ _ _ ⟨W, Z, φ, M, avs, R, rs, h⟩ => h.elim⟩
  | n + 1 => by
    have cs : CalD P w K mg base (0 + n) "_law_same" (F_law_same n) := ⟨f, fd, _, hm, hkp, hb, ok_law_same F B hm hkp hb n⟩
    show FnOk P w K mg base (L2.CX P w) (0 + n + 1) f fd ["value", "due"] (spOf ⟨K, mg⟩ (fnRun 2 3 (T_law_same (F_law_same n))))
    refine fn_ok (N := ["value", "due", "k"]) F sc_law_same (fun cdv A outer s H E hr => ?_)
    have hnd : (["value", "due", "k"] : List Str).Nodup := sc_law_same.nd
    have hu : (A.deeper (envOfC "_law_same" (defScope st_law_same) s.heap.objs.size f cdv)).units + 65 < cLine := by have := hr.un; omega
    have tk : Takes (cxf P w K mg base ["value", "due", "k"] "_law_same" st_law_same f cdv A outer s H E) (fun cls d _ H' => E cls d H') := takes_of rfl rfl rfl rfl
    have po : PassesOwn (model P w) (cxf P w K mg base ["value", "due", "k"] "_law_same" st_law_same f cdv A outer s H E).A (cxf P w K mg base ["value", "due", "k"] "_law_same" st_law_same f cdv A outer s H E).env (cxf P w K mg base ["value", "due", "k"] "_law_same" st_law_same f cdv A outer s H E).xe := passes_of rfl
    exact (gs_cons (gs_if (gb_truth (ge_isi1 (u := "tuple") (by rfl) B.isinstance (by decide) (pe_bltn (by rfl) B.tuple boot_tuple (by rfl)) (gv 1) (by rfl) (by rfl) (by rfl)) (fun _ => rfl))
   (gs_cons (gs_ret (ge_and (ge_isi1 (u := "tuple") (by rfl) B.isinstance (by decide) (pe_bltn (by rfl) B.tuple boot_tuple (by rfl)) (gv 0) (by rfl) (by rfl) (by rfl)) (ge_and (ge_cmp hu (by rfl) (gc_len (by rfl) (gl_one (gv 0)) (by rfl) (by rfl) (by rfl) B.len) (gc_len (by rfl) (gl_one (gv 1)) (by rfl) (by rfl) (by rfl) B.len)) (ge_one1 (gc_all (by rfl) (gl_one (ge_comp (own := [("k", 2)]) (t := (.name 2)) (by rfl) hnd (gi_rng1 (by rfl) B.range (by rfl) (gl_one (gc_len (by rfl) (gl_one (gv 1)) (by rfl) (by rfl) (by rfl) B.len)) (sl_cons sl_nil)) (blkOk_by (by rfl)) (fun _ _ _ _ _ => (gg_name (i := 2) hnd (by rfl) (by first | exact Or.inl rfl | exact Or.inr rfl) (by first | exact Or.inl rfl | exact Or.inr rfl))) (fun _ _ _ _ _ => gts_nil) (fun _ _ _ _ _ => (ge_call (by exact cs.cald) hr takesW (by rfl) (gl_more (ge_idx (fun _ _ => rfl) (gv 0) (gv 2)) (gl_one (ge_idx (fun _ _ => rfl) (gv 1) (gv 2)))) (by decide) (by rfl) (by rfl))) (fun _ => rfl) (by decide))) (by rfl) (by rfl) (by rfl) B.all)))))
   gs_nil)
   gs_nil)
   (gs_cons (gs_if (gb_cmp hu (by rfl) (gv 1) gn_non)
   (gs_cons (gs_ret (ge_cmp hu (by rfl) (gv 0) gn_non))
   gs_nil)
   gs_nil)
   (gs_cons (gs_if (gb_truth (ge_isi1 (u := "bool") (by rfl) B.isinstance (by decide) (pe_bltn (by rfl) B.bool boot_bool (by rfl)) (gv 1) (by rfl) (by rfl) (by rfl)) (fun _ => rfl))
   (gs_cons (gs_ret (ge_and (ge_isi1 (u := "bool") (by rfl) B.isinstance (by decide) (pe_bltn (by rfl) B.bool boot_bool (by rfl)) (gv 0) (by rfl) (by rfl) (by rfl)) (ge_one1 (ge_cmp hu (by rfl) (gv 0) (gv 1)))))
   gs_nil)
   gs_nil)
   (gs_cons (gs_if (gb_truth (ge_isi1 (u := "str") (by rfl) B.isinstance (by decide) (pe_bltn (by rfl) B.str boot_str (by rfl)) (gv 1) (by rfl) (by rfl) (by rfl)) (fun _ => rfl))
   (gs_cons (gs_ret (ge_and (ge_isi1 (u := "str") (by rfl) B.isinstance (by decide) (pe_bltn (by rfl) B.str boot_str (by rfl)) (gv 0) (by rfl) (by rfl) (by rfl)) (ge_one1 (ge_cmp hu (by rfl) (gv 0) (gv 1)))))
   gs_nil)
   gs_nil)
   (gs_cons (gs_ret (ge_and (ge_isi1 (u := "int") (by rfl) B.isinstance (by decide) (pe_bltn (by rfl) B.int boot_int (by rfl)) (gv 0) (by rfl) (by rfl) (by rfl)) (ge_and (ge_not (ge_isi1 (u := "bool") (by rfl) B.isinstance (by decide) (pe_bltn (by rfl) B.bool boot_bool (by rfl)) (gv 0) (by rfl) (by rfl) (by rfl))) (ge_one1 (ge_cmp hu (by rfl) (gv 0) (gv 1))))))
   gs_nil)))))
/-! ### _law_told -/
abbrev st_law_told : Stmt := top 28
def T_law_told : SS :=
 (sSeq2 (sTry ctE (sSeq2 (sIfS (sB (sCmp .Eq (sArgs lenOp (sCons (sVar 1) sNil)) (sCon (.int 1))))
 (sSeq2 (sRet (sTup (sCons (sCon (.str "told")) (sCons (sCallV [("ideal_codimension", Fideal_codimension), ("unloaded", Funloaded)] (sVar 0) (sCons (sIdx (sVar 1) (sCon (.int 0))) sNil)) sNil))))
 sSkip)
 sSkip)
 (sSeq2 (sIfS (sB (sCmp .Eq (sArgs lenOp (sCons (sVar 1) sNil)) (sCon (.int 2))))
 (sSeq2 (sRet (sTup (sCons (sCon (.str "told")) (sCons (sCallV [("ideal_codimension", Fideal_codimension), ("unloaded", Funloaded)] (sVar 0) (sCons (sIdx (sVar 1) (sCon (.int 0))) (sCons (sIdx (sVar 1) (sCon (.int 1))) sNil))) sNil))))
 sSkip)
 sSkip)
 (sSeq2 (sIfS (sB (sCmp .Eq (sArgs lenOp (sCons (sVar 1) sNil)) (sCon (.int 3))))
 (sSeq2 (sRet (sTup (sCons (sCon (.str "told")) (sCons (sCallV [("ideal_codimension", Fideal_codimension), ("unloaded", Funloaded)] (sVar 0) (sCons (sIdx (sVar 1) (sCon (.int 0))) (sCons (sIdx (sVar 1) (sCon (.int 1))) (sCons (sIdx (sVar 1) (sCon (.int 2))) sNil)))) sNil))))
 sSkip)
 sSkip)
 (sSeq2 (sIfS (sB (sCmp .Eq (sArgs lenOp (sCons (sVar 1) sNil)) (sCon (.int 4))))
 (sSeq2 (sRet (sTup (sCons (sCon (.str "told")) (sCons (sCallV [("ideal_codimension", Fideal_codimension), ("unloaded", Funloaded)] (sVar 0) (sCons (sIdx (sVar 1) (sCon (.int 0))) (sCons (sIdx (sVar 1) (sCon (.int 1))) (sCons (sIdx (sVar 1) (sCon (.int 2))) (sCons (sIdx (sVar 1) (sCon (.int 3))) sNil))))) sNil))))
 sSkip)
 sSkip)
 (sSeq2 (sRet (sTup (sCons (sCon (.str "told")) (sCons (sCallV [("ideal_codimension", Fideal_codimension), ("unloaded", Funloaded)] (sVar 0) (sCons (sIdx (sVar 1) (sCon (.int 0))) (sCons (sIdx (sVar 1) (sCon (.int 1))) (sCons (sIdx (sVar 1) (sCon (.int 2))) (sCons (sIdx (sVar 1) (sCon (.int 3))) (sCons (sIdx (sVar 1) (sCon (.int 4))) sNil)))))) sNil))))
 sSkip))))) [("Malformed", (xTup2 (fun _ => some (.str "malformed")) (fun _ => some .non))), ("Refused", (xTup2 (fun _ => some (.str "raised")) (xFld "Refused" "reason")))])
 sSkip)
def F_law_told : List AV → Mem → Out AV := fnRun 2 3 T_law_told
theorem sc_law_told : FnScope ["f", "given", "error"] ["f", "given"] (defScope st_law_told) := C8.fnScope_by rfl
theorem ok_law_told {P : Program} {w : World} {K : PySem.W.Frag} {mg : Str → Option Value} {base : Heap} {f CM CR fR : Addr} {fd : FuncData} (F : Fun K "_law_told" "_law_told" st_law_told f fd) (B : Bn mg) (T : Errs P K mg CM CR fR) (cideal_codimension : CalD P w K mg base 7 "ideal_codimension" Fideal_codimension) (cunloaded : CalD P w K mg base 6 "unloaded" Funloaded) : FnOk P w K mg base (L2.CX P w) 8 f fd ["f", "given"] (spOf ⟨K, mg⟩ F_law_told) := by
  refine fn_ok (N := ["f", "given", "error"]) F sc_law_told (fun cdv A outer s H E hr => ?_)
  have hnd : (["f", "given", "error"] : List Str).Nodup := sc_law_told.nd
  have hu : (A.deeper (envOfC "_law_told" (defScope st_law_told) s.heap.objs.size f cdv)).units + 65 < cLine := by have := hr.un; omega
  have tk : Takes (cxf P w K mg base ["f", "given", "error"] "_law_told" st_law_told f cdv A outer s H E) (fun cls d _ H' => E cls d H') := takes_of rfl rfl rfl rfl
  have po : PassesOwn (model P w) (cxf P w K mg base ["f", "given", "error"] "_law_told" st_law_told f cdv A outer s H E).A (cxf P w K mg base ["f", "given", "error"] "_law_told" st_law_told f cdv A outer s H E).env (cxf P w K mg base ["f", "given", "error"] "_law_told" st_law_told f cdv A outer s H E).xe := passes_of rfl
  exact (gs_cons (gs_try (ct := ctE) (l := [⟨"Malformed", .ref CM, none, (xTup2 (fun _ => some (.str "malformed")) (fun _ => some .non))⟩, ⟨"Refused", .ref CR, (some 2), (xTup2 (fun _ => some (.str "raised")) (xFld "Refused" "reason"))⟩]) (by rfl) (by rfl) tk (fun W1 pn1 xe1 tk1 po1 => (gs_cons (gs_if (gb_cmp hu (by rfl) (gc_len (by rfl) (gl_one (gv 1)) (by rfl) (by rfl) (by rfl) B.len) gn_int)
 (gs_cons (gs_ret (ge_tup (gl_more gn_str (gl_one (ge_callv (k := 7) (tab := [("ideal_codimension", Fideal_codimension), ("unloaded", Funloaded)]) (tab_cons (by exact (cideal_codimension.mono (by decide : 7 ≤ 7)).cald) (tab_cons (by exact (cunloaded.mono (by decide : 6 ≤ 7)).cald) tab_nil)) hr tk1 (gv 0) (gl_one (ge_idx (fun _ _ => rfl) (gv 1) gn_int)) (by rfl) (by rfl) (by rfl))))))
 gs_nil)
 gs_nil)
 (gs_cons (gs_if (gb_cmp hu (by rfl) (gc_len (by rfl) (gl_one (gv 1)) (by rfl) (by rfl) (by rfl) B.len) gn_int)
 (gs_cons (gs_ret (ge_tup (gl_more gn_str (gl_one (ge_callv (k := 7) (tab := [("ideal_codimension", Fideal_codimension), ("unloaded", Funloaded)]) (tab_cons (by exact (cideal_codimension.mono (by decide : 7 ≤ 7)).cald) (tab_cons (by exact (cunloaded.mono (by decide : 6 ≤ 7)).cald) tab_nil)) hr tk1 (gv 0) (gl_more (ge_idx (fun _ _ => rfl) (gv 1) gn_int) (gl_one (ge_idx (fun _ _ => rfl) (gv 1) gn_int))) (by rfl) (by rfl) (by rfl))))))
 gs_nil)
 gs_nil)
 (gs_cons (gs_if (gb_cmp hu (by rfl) (gc_len (by rfl) (gl_one (gv 1)) (by rfl) (by rfl) (by rfl) B.len) gn_int)
 (gs_cons (gs_ret (ge_tup (gl_more gn_str (gl_one (ge_callv (k := 7) (tab := [("ideal_codimension", Fideal_codimension), ("unloaded", Funloaded)]) (tab_cons (by exact (cideal_codimension.mono (by decide : 7 ≤ 7)).cald) (tab_cons (by exact (cunloaded.mono (by decide : 6 ≤ 7)).cald) tab_nil)) hr tk1 (gv 0) (gl_more (ge_idx (fun _ _ => rfl) (gv 1) gn_int) (gl_more (ge_idx (fun _ _ => rfl) (gv 1) gn_int) (gl_one (ge_idx (fun _ _ => rfl) (gv 1) gn_int)))) (by rfl) (by rfl) (by rfl))))))
 gs_nil)
 gs_nil)
 (gs_cons (gs_if (gb_cmp hu (by rfl) (gc_len (by rfl) (gl_one (gv 1)) (by rfl) (by rfl) (by rfl) B.len) gn_int)
 (gs_cons (gs_ret (ge_tup (gl_more gn_str (gl_one (ge_callv (k := 7) (tab := [("ideal_codimension", Fideal_codimension), ("unloaded", Funloaded)]) (tab_cons (by exact (cideal_codimension.mono (by decide : 7 ≤ 7)).cald) (tab_cons (by exact (cunloaded.mono (by decide : 6 ≤ 7)).cald) tab_nil)) hr tk1 (gv 0) (gl_more (ge_idx (fun _ _ => rfl) (gv 1) gn_int) (gl_more (ge_idx (fun _ _ => rfl) (gv 1) gn_int) (gl_more (ge_idx (fun _ _ => rfl) (gv 1) gn_int) (gl_one (ge_idx (fun _ _ => rfl) (gv 1) gn_int))))) (by rfl) (by rfl) (by rfl))))))
 gs_nil)
 gs_nil)
 (gs_cons (gs_ret (ge_tup (gl_more gn_str (gl_one (ge_callv (k := 7) (tab := [("ideal_codimension", Fideal_codimension), ("unloaded", Funloaded)]) (tab_cons (by exact (cideal_codimension.mono (by decide : 7 ≤ 7)).cald) (tab_cons (by exact (cunloaded.mono (by decide : 6 ≤ 7)).cald) tab_nil)) hr tk1 (gv 0) (gl_more (ge_idx (fun _ _ => rfl) (gv 1) gn_int) (gl_more (ge_idx (fun _ _ => rfl) (gv 1) gn_int) (gl_more (ge_idx (fun _ _ => rfl) (gv 1) gn_int) (gl_more (ge_idx (fun _ _ => rfl) (gv 1) gn_int) (gl_one (ge_idx (fun _ _ => rfl) (gv 1) gn_int)))))) (by rfl) (by rfl) (by rfl))))))
 gs_nil))))))
 (by exact (HdsMx.cons (names_own (by rfl) T.gM (by decide)) (fun a oe cls d pn hz hf => gsu (gx_tup2 gx_str gx_non (by rfl) (by rfl))) (HdsMx.consA (names_own (by rfl) T.ref.gC (by decide)) hnd (i := 2) (by rfl) (by rfl) (fun a oe cls d pn hz hf => gsu (gx_tup2 gx_str (gx_reason T (i := 2) hz hf (by rfl) (by first | exact Or.inl rfl | exact Or.inr (Or.inl rfl)) (by decide) (by decide) (by rfl)) (by rfl) (by rfl))) HdsMx.nil))) (by intro h hh; simp only [List.mem_cons, List.mem_nil_iff, or_false] at hh; rcases hh with rfl | rfl <;> first | exact T.ctM | exact T.ctR) (by intro h hh i hi; simp only [List.mem_cons, List.mem_nil_iff, or_false] at hh; rcases hh with rfl | rfl <;> cases hi <;> exact (by decide : 2 < 3)))
 gs_nil)
/-! ### _law_is_told -/
abbrev st_law_is_told : Stmt := top 29
def T_law_is_told : SS :=
 (sSeq2 (sRet (sAnd (sCmp .Eq (sIdx (sVar 0) (sCon (.int 0))) (sCon (.str "told"))) (sArgs (F_law_same 8) (sCons (sIdx (sVar 0) (sCon (.int 1))) (sCons (sVar 1) sNil)))))
 sSkip)
def F_law_is_told : List AV → Mem → Out AV := fnRun 2 2 T_law_is_told
theorem sc_law_is_told : FnScope ["pair", "due"] ["pair", "due"] (defScope st_law_is_told) := C8.fnScope_by rfl
theorem ok_law_is_told {P : Program} {w : World} {K : PySem.W.Frag} {mg : Str → Option Value} {base : Heap} {f : Addr} {fd : FuncData} (F : Fun K "_law_is_told" "_law_is_told" st_law_is_told f fd) (c_law_same : CalD P w K mg base 8 "_law_same" (F_law_same 8)) : FnOk P w K mg base (L2.CX P w) 9 f fd ["pair", "due"] (spOf ⟨K, mg⟩ F_law_is_told) := by
  refine fn_ok (N := ["pair", "due"]) F sc_law_is_told (fun cdv A outer s H E hr => ?_)
  have hnd : (["pair", "due"] : List Str).Nodup := sc_law_is_told.nd
  have hu : (A.deeper (envOfC "_law_is_told" (defScope st_law_is_told) s.heap.objs.size f cdv)).units + 65 < cLine := by have := hr.un; omega
  have tk : Takes (cxf P w K mg base ["pair", "due"] "_law_is_told" st_law_is_told f cdv A outer s H E) (fun cls d _ H' => E cls d H') := takes_of rfl rfl rfl rfl
  have po : PassesOwn (model P w) (cxf P w K mg base ["pair", "due"] "_law_is_told" st_law_is_told f cdv A outer s H E).A (cxf P w K mg base ["pair", "due"] "_law_is_told" st_law_is_told f cdv A outer s H E).env (cxf P w K mg base ["pair", "due"] "_law_is_told" st_law_is_told f cdv A outer s H E).xe := passes_of rfl
  exact (gs_cons (gs_ret (ge_and (ge_cmp hu (by rfl) (ge_idx (fun _ _ => rfl) (gv 0) gn_int) gn_str) (ge_one1 (ge_call (by exact c_law_same.cald) (hr.mono (by decide)) tk (by rfl) (gl_more (ge_idx (fun _ _ => rfl) (gv 0) gn_int) (gl_one (gv 1))) (by decide) (by rfl) (by rfl)))))
 gs_nil)
/-! ### _law_is_raised -/
abbrev st_law_is_raised : Stmt := top 30
def T_law_is_raised : SS :=
 (sSeq2 (sIfS (sB (sCmp .Eq (sVar 1) (sCon (.str "malformed"))))
 (sSeq2 (sRet (sCmp .Eq (sIdx (sVar 0) (sCon (.int 0))) (sCon (.str "malformed"))))
 sSkip)
 sSkip)
 (sSeq2 (sRet (sAnd (sCmp .Eq (sIdx (sVar 0) (sCon (.int 0))) (sCon (.str "raised"))) (sArgs (F_law_same 8) (sCons (sIdx (sVar 0) (sCon (.int 1))) (sCons (sVar 1) sNil)))))
 sSkip))
def F_law_is_raised : List AV → Mem → Out AV := fnRun 2 2 T_law_is_raised
theorem sc_law_is_raised : FnScope ["pair", "reason"] ["pair", "reason"] (defScope st_law_is_raised) := C8.fnScope_by rfl
theorem ok_law_is_raised {P : Program} {w : World} {K : PySem.W.Frag} {mg : Str → Option Value} {base : Heap} {f : Addr} {fd : FuncData} (F : Fun K "_law_is_raised" "_law_is_raised" st_law_is_raised f fd) (c_law_same : CalD P w K mg base 8 "_law_same" (F_law_same 8)) : FnOk P w K mg base (L2.CX P w) 9 f fd ["pair", "reason"] (spOf ⟨K, mg⟩ F_law_is_raised) := by
  refine fn_ok (N := ["pair", "reason"]) F sc_law_is_raised (fun cdv A outer s H E hr => ?_)
  have hnd : (["pair", "reason"] : List Str).Nodup := sc_law_is_raised.nd
  have hu : (A.deeper (envOfC "_law_is_raised" (defScope st_law_is_raised) s.heap.objs.size f cdv)).units + 65 < cLine := by have := hr.un; omega
  have tk : Takes (cxf P w K mg base ["pair", "reason"] "_law_is_raised" st_law_is_raised f cdv A outer s H E) (fun cls d _ H' => E cls d H') := takes_of rfl rfl rfl rfl
  have po : PassesOwn (model P w) (cxf P w K mg base ["pair", "reason"] "_law_is_raised" st_law_is_raised f cdv A outer s H E).A (cxf P w K mg base ["pair", "reason"] "_law_is_raised" st_law_is_raised f cdv A outer s H E).env (cxf P w K mg base ["pair", "reason"] "_law_is_raised" st_law_is_raised f cdv A outer s H E).xe := passes_of rfl
  exact (gs_cons (gs_if (gb_cmp hu (by rfl) (gv 1) gn_str)
 (gs_cons (gs_ret (ge_cmp hu (by rfl) (ge_idx (fun _ _ => rfl) (gv 0) gn_int) gn_str))
 gs_nil)
 gs_nil)
 (gs_cons (gs_ret (ge_and (ge_cmp hu (by rfl) (ge_idx (fun _ _ => rfl) (gv 0) gn_int) gn_str) (ge_one1 (ge_call (by exact c_law_same.cald) (hr.mono (by decide)) tk (by rfl) (gl_more (ge_idx (fun _ _ => rfl) (gv 0) gn_int) (gl_one (gv 1))) (by decide) (by rfl) (by rfl)))))
 gs_nil))
/-! ### _law_tells -/
abbrev st_law_tells : Stmt := top 31
def T_law_tells : SS :=
 (sSeq2 (sRet (sArgs F_law_is_told (sCons (sArgs F_law_told (sCons (sVar 0) (sCons (sVar 1) sNil))) (sCons (sVar 2) sNil))))
 sSkip)
def F_law_tells : List AV → Mem → Out AV := fnRun 3 3 T_law_tells
theorem sc_law_tells : FnScope ["f", "given", "due"] ["f", "given", "due"] (defScope st_law_tells) := C8.fnScope_by rfl
theorem ok_law_tells {P : Program} {w : World} {K : PySem.W.Frag} {mg : Str → Option Value} {base : Heap} {f : Addr} {fd : FuncData} (F : Fun K "_law_tells" "_law_tells" st_law_tells f fd) (c_law_is_told : CalD P w K mg base 9 "_law_is_told" F_law_is_told) (c_law_told : CalD P w K mg base 8 "_law_told" F_law_told) : FnOk P w K mg base (L2.CX P w) 10 f fd ["f", "given", "due"] (spOf ⟨K, mg⟩ F_law_tells) := by
  refine fn_ok (N := ["f", "given", "due"]) F sc_law_tells (fun cdv A outer s H E hr => ?_)
  have hnd : (["f", "given", "due"] : List Str).Nodup := sc_law_tells.nd
  have hu : (A.deeper (envOfC "_law_tells" (defScope st_law_tells) s.heap.objs.size f cdv)).units + 65 < cLine := by have := hr.un; omega
  have tk : Takes (cxf P w K mg base ["f", "given", "due"] "_law_tells" st_law_tells f cdv A outer s H E) (fun cls d _ H' => E cls d H') := takes_of rfl rfl rfl rfl
  have po : PassesOwn (model P w) (cxf P w K mg base ["f", "given", "due"] "_law_tells" st_law_tells f cdv A outer s H E).A (cxf P w K mg base ["f", "given", "due"] "_law_tells" st_law_tells f cdv A outer s H E).env (cxf P w K mg base ["f", "given", "due"] "_law_tells" st_law_tells f cdv A outer s H E).xe := passes_of rfl
  exact (gs_cons (gs_ret (ge_call (by exact c_law_is_told.cald) (hr.mono (by decide)) tk (by rfl) (gl_more (ge_call (by exact c_law_told.cald) (hr.mono (by decide)) tk (by rfl) (gl_more (gv 0) (gl_one (gv 1))) (by decide) (by rfl) (by rfl)) (gl_one (gv 2))) (by decide) (by rfl) (by rfl)))
 gs_nil)
/-! ### _law_raises -/
abbrev st_law_raises : Stmt := top 32
def T_law_raises : SS :=
 (sSeq2 (sRet (sArgs F_law_is_raised (sCons (sArgs F_law_told (sCons (sVar 0) (sCons (sVar 1) sNil))) (sCons (sVar 2) sNil))))
 sSkip)
def F_law_raises : List AV → Mem → Out AV := fnRun 3 3 T_law_raises
theorem sc_law_raises : FnScope ["f", "given", "reason"] ["f", "given", "reason"] (defScope st_law_raises) := C8.fnScope_by rfl
theorem ok_law_raises {P : Program} {w : World} {K : PySem.W.Frag} {mg : Str → Option Value} {base : Heap} {f : Addr} {fd : FuncData} (F : Fun K "_law_raises" "_law_raises" st_law_raises f fd) (c_law_is_raised : CalD P w K mg base 9 "_law_is_raised" F_law_is_raised) (c_law_told : CalD P w K mg base 8 "_law_told" F_law_told) : FnOk P w K mg base (L2.CX P w) 10 f fd ["f", "given", "reason"] (spOf ⟨K, mg⟩ F_law_raises) := by
  refine fn_ok (N := ["f", "given", "reason"]) F sc_law_raises (fun cdv A outer s H E hr => ?_)
  have hnd : (["f", "given", "reason"] : List Str).Nodup := sc_law_raises.nd
  have hu : (A.deeper (envOfC "_law_raises" (defScope st_law_raises) s.heap.objs.size f cdv)).units + 65 < cLine := by have := hr.un; omega
  have tk : Takes (cxf P w K mg base ["f", "given", "reason"] "_law_raises" st_law_raises f cdv A outer s H E) (fun cls d _ H' => E cls d H') := takes_of rfl rfl rfl rfl
  have po : PassesOwn (model P w) (cxf P w K mg base ["f", "given", "reason"] "_law_raises" st_law_raises f cdv A outer s H E).A (cxf P w K mg base ["f", "given", "reason"] "_law_raises" st_law_raises f cdv A outer s H E).env (cxf P w K mg base ["f", "given", "reason"] "_law_raises" st_law_raises f cdv A outer s H E).xe := passes_of rfl
  exact (gs_cons (gs_ret (ge_call (by exact c_law_is_raised.cald) (hr.mono (by decide)) tk (by rfl) (gl_more (ge_call (by exact c_law_told.cald) (hr.mono (by decide)) tk (by rfl) (gl_more (gv 0) (gl_one (gv 1))) (by decide) (by rfl) (by rfl)) (gl_one (gv 2))) (by decide) (by rfl) (by rfl)))
 gs_nil)
/-! ### _law_points -/
abbrev st_law_points : Stmt := top 33
def T_law_points : SS :=
 (sSeq2 (sAsg 2 true (sLst (sCons (sTup sNil) sNil)))
 (sSeq2 (sWhile (sB (sCmp .Lt (sArgs lenOp (sCons (sVar 2) sNil)) (sVar 1)))
 (sSeq2 (sAsg 3 false (sIf (sB (sCmp .Gt (sArgs F_law_take (sCons (sVar 0) (sCons (sCon (.int 3)) sNil))) (sCon (.int 0)))) (sBin .Sub (sArgs lenOp (sCons (sVar 2) sNil)) (sCon (.int 1))) (sArgs F_law_take (sCons (sVar 0) (sCons (sArgs lenOp (sCons (sVar 2) sNil)) sNil)))))
 (sSeq2 (sAsg 4 false (sBin .Add (sLst (sCons (sTup (sCons (sVar 3) sNil)) sNil)) (sComp (sSeq (sIdx (sVar 2) (sVar 3))) (.name 5) (sB (sCmp .NotIn (sTup (sCons (sVar 3) (sCons (sVar 5) sNil))) (sVar 2))) (sTup (sCons (sVar 3) (sCons (sVar 5) sNil))) (([("r", 5)] : List (Str × Nat)).map (·.2)))))
 (sSeq2 (sExpr (sMeth mAppend (sVar 2) (sCons (sIdx (sVar 4) (sArgs F_law_take (sCons (sVar 0) (sCons (sArgs lenOp (sCons (sVar 4) sNil)) sNil)))) sNil)))
 sSkip))))
 (sSeq2 (sRet (sArgs tupleOp (sCons (sVar 2) sNil)))
 sSkip)))
def F_law_points : List AV → Mem → Out AV := fnRun 2 6 T_law_points
theorem sc_law_points : FnScope ["state", "many", "points", "q", "items", "r"] ["state", "many"] (defScope st_law_points) := C8.fnScope_by rfl
theorem ok_law_points {P : Program} {w : World} {K : PySem.W.Frag} {mg : Str → Option Value} {base : Heap} {f : Addr} {fd : FuncData} (F : Fun K "_law_points" "_law_points" st_law_points f fd) (B : Bn mg) (c_law_take : CalD P w K mg base 1 "_law_take" F_law_take) : FnOk P w K mg base (L2.CX P w) 2 f fd ["state", "many"] (spOf ⟨K, mg⟩ F_law_points) := by
  refine fn_ok (N := ["state", "many", "points", "q", "items", "r"]) F sc_law_points (fun cdv A outer s H E hr => ?_)
  have hnd : (["state", "many", "points", "q", "items", "r"] : List Str).Nodup := sc_law_points.nd
  have hu : (A.deeper (envOfC "_law_points" (defScope st_law_points) s.heap.objs.size f cdv)).units + 65 < cLine := by have := hr.un; omega
  have tk : Takes (cxf P w K mg base ["state", "many", "points", "q", "items", "r"] "_law_points" st_law_points f cdv A outer s H E) (fun cls d _ H' => E cls d H') := takes_of rfl rfl rfl rfl
  have po : PassesOwn (model P w) (cxf P w K mg base ["state", "many", "points", "q", "items", "r"] "_law_points" st_law_points f cdv A outer s H E).A (cxf P w K mg base ["state", "many", "points", "q", "items", "r"] "_law_points" st_law_points f cdv A outer s H E).env (cxf P w K mg base ["state", "many", "points", "q", "items", "r"] "_law_points" st_law_points f cdv A outer s H E).xe := passes_of rfl
  exact (gs_cons (gs_asg (i := 2) (m := true) hnd (by rfl) (by first | exact Or.inl rfl | exact Or.inr rfl) (ge_lst (gl_one (ge_tup gl_nil))) (by rfl) (.inl rfl))
 (gs_cons (gs_while po (gb_cmp hu (by rfl) (gc_len (by rfl) (gl_one (gv 2)) (by rfl) (by rfl) (by rfl) B.len) (gv 1))
 (gs_cons (gs_asg (i := 3) (m := false) hnd (by rfl) (by first | exact Or.inl rfl | exact Or.inr rfl) (ge_if (gb_cmp hu (by rfl) (ge_call (by exact c_law_take.cald) (hr.mono (by decide)) tk (by rfl) (gl_more (gv 0) (gl_one gn_int)) (by decide) (by rfl) (by rfl)) gn_int) (ge_bin (gc_len (by rfl) (gl_one (gv 2)) (by rfl) (by rfl) (by rfl) B.len) gn_int) (ge_call (by exact c_law_take.cald) (hr.mono (by decide)) tk (by rfl) (gl_more (gv 0) (gl_one (gc_len (by rfl) (gl_one (gv 2)) (by rfl) (by rfl) (by rfl) B.len))) (by decide) (by rfl) (by rfl))) (by rfl) (.inl rfl))
 (gs_cons (gs_asg (i := 4) (m := false) hnd (by rfl) (by first | exact Or.inl rfl | exact Or.inr rfl) (ge_bin (ge_lst (gl_one (ge_tup (gl_one (gv 3))))) (ge_comp (own := [("r", 5)]) (t := (.name 5)) (by rfl) hnd (gi_seq (ge_idx (fun _ _ => rfl) (gv 2) (gv 3))) (blkOk_by (by rfl)) (fun _ _ _ _ _ => (gg_name (i := 5) hnd (by rfl) (by first | exact Or.inl rfl | exact Or.inr rfl) (by first | exact Or.inl rfl | exact Or.inr rfl))) (fun _ _ _ _ _ => gts_one (gb_cmp hu (by rfl) (ge_tup (gl_more (gv 3) (gl_one (gv 5)))) (gv 2))) (fun _ _ _ _ _ => (ge_tup (gl_more (gv 3) (gl_one (gv 5))))) (fun _ => rfl) (by decide))) (by rfl) (.inl rfl))
 (gs_cons (gs_expr (gm_append (gv 2) (gl_one (ge_idx (fun _ _ => rfl) (gv 4) (ge_call (by exact c_law_take.cald) (hr.mono (by decide)) tk (by rfl) (gl_more (gv 0) (gl_one (gc_len (by rfl) (gl_one (gv 4)) (by rfl) (by rfl) (by rfl) B.len))) (by decide) (by rfl) (by rfl)))) (by rfl) (by rfl) (by rfl) (by rfl) (by rfl)) (by rfl))
 gs_nil))))
 (gs_cons (gs_ret (gc_tuple (by rfl) (gl_one (gv 2)) (by rfl) (by rfl) (by rfl) B.tuple))
 gs_nil)))
/-! ### _law_multiplicities -/
abbrev st_law_multiplicities : Stmt := top 34
def T_law_multiplicities : SS :=
 (sSeq2 (sRet (sComp (sRng (sCons (sArgs lenOp (sCons (sVar 0) sNil)) sNil)) (.name 2) sYes (sBin .Sub (sIdx (sVar 1) (sVar 2)) (sArgs sumOp (sCons (sComp (sSeq (sIdx (sVar 0) (sVar 2))) (.name 3) sYes (sIdx (sVar 1) (sVar 3)) (([("q", 3)] : List (Str × Nat)).map (·.2))) sNil))) (([("p", 2)] : List (Str × Nat)).map (·.2))))
 sSkip)
def F_law_multiplicities : List AV → Mem → Out AV := fnRun 2 4 T_law_multiplicities
theorem sc_law_multiplicities : FnScope ["points", "v", "p", "q"] ["points", "v"] (defScope st_law_multiplicities) := C8.fnScope_by rfl
theorem ok_law_multiplicities {P : Program} {w : World} {K : PySem.W.Frag} {mg : Str → Option Value} {base : Heap} {f : Addr} {fd : FuncData} (F : Fun K "_law_multiplicities" "_law_multiplicities" st_law_multiplicities f fd) (B : Bn mg) : FnOk P w K mg base (L2.CX P w) 1 f fd ["points", "v"] (spOf ⟨K, mg⟩ F_law_multiplicities) := by
  refine fn_ok (N := ["points", "v", "p", "q"]) F sc_law_multiplicities (fun cdv A outer s H E hr => ?_)
  have hnd : (["points", "v", "p", "q"] : List Str).Nodup := sc_law_multiplicities.nd
  have hu : (A.deeper (envOfC "_law_multiplicities" (defScope st_law_multiplicities) s.heap.objs.size f cdv)).units + 65 < cLine := by have := hr.un; omega
  have tk : Takes (cxf P w K mg base ["points", "v", "p", "q"] "_law_multiplicities" st_law_multiplicities f cdv A outer s H E) (fun cls d _ H' => E cls d H') := takes_of rfl rfl rfl rfl
  have po : PassesOwn (model P w) (cxf P w K mg base ["points", "v", "p", "q"] "_law_multiplicities" st_law_multiplicities f cdv A outer s H E).A (cxf P w K mg base ["points", "v", "p", "q"] "_law_multiplicities" st_law_multiplicities f cdv A outer s H E).env (cxf P w K mg base ["points", "v", "p", "q"] "_law_multiplicities" st_law_multiplicities f cdv A outer s H E).xe := passes_of rfl
  exact (gs_cons (gs_ret (ge_comp (own := [("p", 2)]) (t := (.name 2)) (by rfl) hnd (gi_rng1 (by rfl) B.range (by rfl) (gl_one (gc_len (by rfl) (gl_one (gv 0)) (by rfl) (by rfl) (by rfl) B.len)) (sl_cons sl_nil)) (blkOk_by (by rfl)) (fun _ _ _ _ _ => (gg_name (i := 2) hnd (by rfl) (by first | exact Or.inl rfl | exact Or.inr rfl) (by first | exact Or.inl rfl | exact Or.inr rfl))) (fun _ _ _ _ _ => gts_nil) (fun _ _ _ _ _ => (ge_bin (ge_idx (fun _ _ => rfl) (gv 1) (gv 2)) (gc_sum (by rfl) (gl_one (ge_comp (own := [("q", 3)]) (t := (.name 3)) (by rfl) hnd (gi_seq (ge_idx (fun _ _ => rfl) (gv 0) (gv 2))) (blkOk_by (by rfl)) (fun _ _ _ _ _ => (gg_name (i := 3) hnd (by rfl) (by first | exact Or.inl rfl | exact Or.inr rfl) (by first | exact Or.inl rfl | exact Or.inr rfl))) (fun _ _ _ _ _ => gts_nil) (fun _ _ _ _ _ => (ge_idx (fun _ _ => rfl) (gv 1) (gv 3))) (fun _ => rfl) (by decide))) (by rfl) (by rfl) (by rfl) B.sum))) (fun _ => rfl) (by decide)))
 gs_nil)
/-! ### _law_excess -/
abbrev st_law_excess : Stmt := top 35
def T_law_excess : SS :=
 (sSeq2 (sAsg 2 true (sArgs listOp (sCons (sVar 1) sNil)))
 (sSeq2 (sFor (sRng (sCons (sArgs lenOp (sCons (sVar 0) sNil)) sNil)) (.name 3)
 (sSeq2 (sFor (sSeq (sIdx (sVar 0) (sVar 3))) (.name 4)
 (sSeq2 (sSetI (sVar 2) (sVar 4) (sBin .Sub (sIdx (sVar 2) (sVar 4)) (sIdx (sVar 1) (sVar 3))))
 sSkip))
 sSkip))
 (sSeq2 (sRet (sVar 2))
 sSkip)))
def F_law_excess : List AV → Mem → Out AV := fnRun 2 5 T_law_excess
theorem sc_law_excess : FnScope ["points", "m", "found", "q", "p"] ["points", "m"] (defScope st_law_excess) := C8.fnScope_by rfl
theorem ok_law_excess {P : Program} {w : World} {K : PySem.W.Frag} {mg : Str → Option Value} {base : Heap} {f : Addr} {fd : FuncData} (F : Fun K "_law_excess" "_law_excess" st_law_excess f fd) (B : Bn mg) : FnOk P w K mg base (L2.CX P w) 1 f fd ["points", "m"] (spOf ⟨K, mg⟩ F_law_excess) := by
  refine fn_ok (N := ["points", "m", "found", "q", "p"]) F sc_law_excess (fun cdv A outer s H E hr => ?_)
  have hnd : (["points", "m", "found", "q", "p"] : List Str).Nodup := sc_law_excess.nd
  have hu : (A.deeper (envOfC "_law_excess" (defScope st_law_excess) s.heap.objs.size f cdv)).units + 65 < cLine := by have := hr.un; omega
  have tk : Takes (cxf P w K mg base ["points", "m", "found", "q", "p"] "_law_excess" st_law_excess f cdv A outer s H E) (fun cls d _ H' => E cls d H') := takes_of rfl rfl rfl rfl
  have po : PassesOwn (model P w) (cxf P w K mg base ["points", "m", "found", "q", "p"] "_law_excess" st_law_excess f cdv A outer s H E).A (cxf P w K mg base ["points", "m", "found", "q", "p"] "_law_excess" st_law_excess f cdv A outer s H E).env (cxf P w K mg base ["points", "m", "found", "q", "p"] "_law_excess" st_law_excess f cdv A outer s H E).xe := passes_of rfl
  exact (gs_cons (gs_asg (i := 2) (m := true) hnd (by rfl) (by first | exact Or.inl rfl | exact Or.inr rfl) (gc_list (by rfl) (gl_one (gv 1)) (by rfl) (by rfl) (by rfl) B.list) (by rfl) (.inl rfl))
 (gs_cons (gs_for (t := (.name 3)) po (by rfl) (gi_rng1 (by rfl) B.range (by rfl) (gl_one (gc_len (by rfl) (gl_one (gv 0)) (by rfl) (by rfl) (by rfl) B.len)) (sl_cons sl_nil)) (gg_name (i := 3) hnd (by rfl) (by first | exact Or.inl rfl | exact Or.inr rfl) (by first | exact Or.inl rfl | exact Or.inr rfl))
 (gs_cons (gs_for (t := (.name 4)) po (by rfl) (gi_seq (ge_idx (fun _ _ => rfl) (gv 0) (gv 3))) (gg_name (i := 4) hnd (by rfl) (by first | exact Or.inl rfl | exact Or.inr rfl) (by first | exact Or.inl rfl | exact Or.inr rfl))
 (gs_cons (gs_setI' (ge_bin (ge_idx (fun _ _ => rfl) (gv 2) (gv 4)) (ge_idx (fun _ _ => rfl) (gv 1) (gv 3))) (gv 2) (gv 4) (by rfl) (by rfl) (by rfl) (fun _ => rfl))
 gs_nil) (fun _ => rfl))
 gs_nil) (fun _ => rfl))
 (gs_cons (gs_ret (gv 2))
 gs_nil)))
/-! ### _law_fits -/
abbrev st_law_fits : Stmt := top 36
def T_law_fits : SS :=
 (sSeq2 (sRet (sCmp .GtE (sArgs minOp2 (sCons (sArgs F_law_excess (sCons (sVar 0) (sCons (sArgs F_law_multiplicities (sCons (sVar 0) (sCons (sVar 1) sNil))) sNil))) sNil)) (sCon (.int 0))))
 sSkip)
def F_law_fits : List AV → Mem → Out AV := fnRun 2 2 T_law_fits
theorem sc_law_fits : FnScope ["points", "v"] ["points", "v"] (defScope st_law_fits) := C8.fnScope_by rfl
theorem ok_law_fits {P : Program} {w : World} {K : PySem.W.Frag} {mg : Str → Option Value} {base : Heap} {f : Addr} {fd : FuncData} (F : Fun K "_law_fits" "_law_fits" st_law_fits f fd) (B : Bn mg) (c_law_excess : CalD P w K mg base 1 "_law_excess" F_law_excess) (c_law_multiplicities : CalD P w K mg base 1 "_law_multiplicities" F_law_multiplicities) : FnOk P w K mg base (L2.CX P w) 2 f fd ["points", "v"] (spOf ⟨K, mg⟩ F_law_fits) := by
  refine fn_ok (N := ["points", "v"]) F sc_law_fits (fun cdv A outer s H E hr => ?_)
  have hnd : (["points", "v"] : List Str).Nodup := sc_law_fits.nd
  have hu : (A.deeper (envOfC "_law_fits" (defScope st_law_fits) s.heap.objs.size f cdv)).units + 65 < cLine := by have := hr.un; omega
  have tk : Takes (cxf P w K mg base ["points", "v"] "_law_fits" st_law_fits f cdv A outer s H E) (fun cls d _ H' => E cls d H') := takes_of rfl rfl rfl rfl
  have po : PassesOwn (model P w) (cxf P w K mg base ["points", "v"] "_law_fits" st_law_fits f cdv A outer s H E).A (cxf P w K mg base ["points", "v"] "_law_fits" st_law_fits f cdv A outer s H E).env (cxf P w K mg base ["points", "v"] "_law_fits" st_law_fits f cdv A outer s H E).xe := passes_of rfl
  exact (gs_cons (gs_ret (ge_cmp hu (by rfl) (gc_min2 hu (by rfl) (gl_one (ge_call (by exact c_law_excess.cald) (hr.mono (by decide)) tk (by rfl) (gl_more (gv 0) (gl_one (ge_call (by exact c_law_multiplicities.cald) (hr.mono (by decide)) tk (by rfl) (gl_more (gv 0) (gl_one (gv 1))) (by decide) (by rfl) (by rfl)))) (by decide) (by rfl) (by rfl))) (by rfl) (by rfl) (by rfl) B.min) gn_int))
 gs_nil)
/-! ### _law_done -/
abbrev st_law_done : Stmt := top 37
def T_law_done : SS :=
 (sSeq2 (sAsg 3 true (sArgs listOp (sCons (sVar 2) sNil)))
 (sSeq2 (sAsg 4 false (sComp (sRng (sCons (sArgs lenOp (sCons (sVar 1) sNil)) sNil)) (.name 7) sYes (sBin .Add (sCon (.int 1)) (sArgs lenOp (sCons (sComp (sRng (sCons (sArgs lenOp (sCons (sVar 1) sNil)) sNil)) (.name 8) (sB (sCmp .In (sVar 7) (sIdx (sVar 1) (sVar 8)))) (sVar 8) (([("q", 8)] : List (Str × Nat)).map (·.2))) sNil))) (([("p", 7)] : List (Str × Nat)).map (·.2))))
 (sSeq2 (sWhile (sB (sCon (.bl true)))
 (sSeq2 (sAsg 5 false (sArgs F_law_excess (sCons (sVar 1) (sCons (sArgs F_law_multiplicities (sCons (sVar 1) (sCons (sVar 3) sNil))) sNil))))
 (sSeq2 (sAsg 6 false (sComp (sRng (sCons (sArgs lenOp (sCons (sVar 1) sNil)) sNil)) (.name 7) (sB (sCmp .Lt (sIdx (sVar 5) (sVar 7)) (sCon (.int 0)))) (sVar 7) (([("p", 7)] : List (Str × Nat)).map (·.2))))
 (sSeq2 (sIfS (sB (sCmp .Eq (sArgs lenOp (sCons (sVar 6) sNil)) (sCon (.int 0))))
 (sSeq2 (sRet (sArgs tupleOp (sCons (sVar 3) sNil)))
 sSkip)
 sSkip)
 (sSeq2 (sAsg 7 false (sIdx (sVar 6) (sArgs F_law_take (sCons (sVar 0) (sCons (sArgs lenOp (sCons (sVar 6) sNil)) sNil)))))
 (sSeq2 (sSetI (sVar 3) (sVar 7) (sBin .Add (sIdx (sVar 3) (sVar 7)) (sBin .FloorDiv (sBin .Sub (sBin .Sub (sIdx (sVar 4) (sVar 7)) (sCon (.int 1))) (sIdx (sVar 5) (sVar 7))) (sIdx (sVar 4) (sVar 7)))))
 sSkip))))))
 sSkip)))
def F_law_done : List AV → Mem → Out AV := fnRun 3 9 T_law_done
theorem sc_law_done : FnScope ["state", "points", "v", "found", "many", "excess", "low", "p", "q"] ["state", "points", "v"] (defScope st_law_done) := C8.fnScope_by rfl
theorem ok_law_done {P : Program} {w : World} {K : PySem.W.Frag} {mg : Str → Option Value} {base : Heap} {f : Addr} {fd : FuncData} (F : Fun K "_law_done" "_law_done" st_law_done f fd) (B : Bn mg) (c_law_excess : CalD P w K mg base 1 "_law_excess" F_law_excess) (c_law_multiplicities : CalD P w K mg base 1 "_law_multiplicities" F_law_multiplicities) (c_law_take : CalD P w K mg base 1 "_law_take" F_law_take) : FnOk P w K mg base (L2.CX P w) 2 f fd ["state", "points", "v"] (spOf ⟨K, mg⟩ F_law_done) := by
  refine fn_ok (N := ["state", "points", "v", "found", "many", "excess", "low", "p", "q"]) F sc_law_done (fun cdv A outer s H E hr => ?_)
  have hnd : (["state", "points", "v", "found", "many", "excess", "low", "p", "q"] : List Str).Nodup := sc_law_done.nd
  have hu : (A.deeper (envOfC "_law_done" (defScope st_law_done) s.heap.objs.size f cdv)).units + 65 < cLine := by have := hr.un; omega
  have tk : Takes (cxf P w K mg base ["state", "points", "v", "found", "many", "excess", "low", "p", "q"] "_law_done" st_law_done f cdv A outer s H E) (fun cls d _ H' => E cls d H') := takes_of rfl rfl rfl rfl
  have po : PassesOwn (model P w) (cxf P w K mg base ["state", "points", "v", "found", "many", "excess", "low", "p", "q"] "_law_done" st_law_done f cdv A outer s H E).A (cxf P w K mg base ["state", "points", "v", "found", "many", "excess", "low", "p", "q"] "_law_done" st_law_done f cdv A outer s H E).env (cxf P w K mg base ["state", "points", "v", "found", "many", "excess", "low", "p", "q"] "_law_done" st_law_done f cdv A outer s H E).xe := passes_of rfl
  exact (gs_cons (gs_asg (i := 3) (m := true) hnd (by rfl) (by first | exact Or.inl rfl | exact Or.inr rfl) (gc_list (by rfl) (gl_one (gv 2)) (by rfl) (by rfl) (by rfl) B.list) (by rfl) (.inl rfl))
 (gs_cons (gs_asgLc (i := 4) (m := false) (own := [("p", 7)]) (t := (.name 7)) (by rfl) hnd (by rfl) (by rfl) (by rfl) (gi_rng1 (by rfl) B.range (by rfl) (gl_one (gc_len (by rfl) (gl_one (gv 1)) (by rfl) (by rfl) (by rfl) B.len)) (sl_cons sl_nil)) (blkOk_by (by rfl)) (fun _ _ _ _ _ => (gg_name (i := 7) hnd (by rfl) (by first | exact Or.inl rfl | exact Or.inr rfl) (by first | exact Or.inl rfl | exact Or.inr rfl))) (fun _ _ _ _ _ => gts_nil) (fun _ _ _ _ _ => (ge_bin gn_int (gc_len (by rfl) (gl_one (ge_comp (own := [("q", 8)]) (t := (.name 8)) (by rfl) hnd (gi_rng1 (by rfl) B.range (by rfl) (gl_one (gc_len (by rfl) (gl_one (gv 1)) (by rfl) (by rfl) (by rfl) B.len)) (sl_cons sl_nil)) (blkOk_by (by rfl)) (fun _ _ _ _ _ => (gg_name (i := 8) hnd (by rfl) (by first | exact Or.inl rfl | exact Or.inr rfl) (by first | exact Or.inl rfl | exact Or.inr rfl))) (fun _ _ _ _ _ => gts_one (gb_cmp hu (by rfl) (gv 7) (ge_idx (fun _ _ => rfl) (gv 1) (gv 8)))) (fun _ _ _ _ _ => (gv 8)) (fun _ => rfl) (by decide))) (by rfl) (by rfl) (by rfl) B.len))) (fun _ => rfl) (by decide))
 (gs_cons (gs_while po (gb_truth gn_bl (fun _ => rfl))
 (gs_cons (gs_asg (i := 5) (m := false) hnd (by rfl) (by first | exact Or.inl rfl | exact Or.inr rfl) (ge_call (by exact c_law_excess.cald) (hr.mono (by decide)) tk (by rfl) (gl_more (gv 1) (gl_one (ge_call (by exact c_law_multiplicities.cald) (hr.mono (by decide)) tk (by rfl) (gl_more (gv 1) (gl_one (gv 3))) (by decide) (by rfl) (by rfl)))) (by decide) (by rfl) (by rfl)) (by rfl) (.inl rfl))
 (gs_cons (gs_asgLc (i := 6) (m := false) (own := [("p", 7)]) (t := (.name 7)) (by rfl) hnd (by rfl) (by rfl) (by rfl) (gi_rng1 (by rfl) B.range (by rfl) (gl_one (gc_len (by rfl) (gl_one (gv 1)) (by rfl) (by rfl) (by rfl) B.len)) (sl_cons sl_nil)) (blkOk_by (by rfl)) (fun _ _ _ _ _ => (gg_name (i := 7) hnd (by rfl) (by first | exact Or.inl rfl | exact Or.inr rfl) (by first | exact Or.inl rfl | exact Or.inr rfl))) (fun _ _ _ _ _ => gts_one (gb_cmp hu (by rfl) (ge_idx (fun _ _ => rfl) (gv 5) (gv 7)) gn_int)) (fun _ _ _ _ _ => (gv 7)) (fun _ => rfl) (by decide))
 (gs_cons (gs_if (gb_cmp hu (by rfl) (gc_len (by rfl) (gl_one (gv 6)) (by rfl) (by rfl) (by rfl) B.len) gn_int)
 (gs_cons (gs_ret (gc_tuple (by rfl) (gl_one (gv 3)) (by rfl) (by rfl) (by rfl) B.tuple))
 gs_nil)
 gs_nil)
 (gs_cons (gs_asg (i := 7) (m := false) hnd (by rfl) (by first | exact Or.inl rfl | exact Or.inr rfl) (ge_idx (fun _ _ => rfl) (gv 6) (ge_call (by exact c_law_take.cald) (hr.mono (by decide)) tk (by rfl) (gl_more (gv 0) (gl_one (gc_len (by rfl) (gl_one (gv 6)) (by rfl) (by rfl) (by rfl) B.len))) (by decide) (by rfl) (by rfl))) (by rfl) (.inl rfl))
 (gs_cons (gs_setI' (ge_bin (ge_idx (fun _ _ => rfl) (gv 3) (gv 7)) (ge_bin (ge_bin (ge_bin (ge_idx (fun _ _ => rfl) (gv 4) (gv 7)) gn_int) (ge_idx (fun _ _ => rfl) (gv 5) (gv 7))) (ge_idx (fun _ _ => rfl) (gv 4) (gv 7)))) (gv 3) (gv 7) (by rfl) (by rfl) (by rfl) (fun _ => rfl))
 gs_nil))))))
 gs_nil)))
/-! ### _law_between -/
abbrev st_law_between : Stmt := top 38
def T_law_between : SS :=
 (sSeq2 (sAsg 2 false (sLst (sCons (sTup sNil) sNil)))
 (sSeq2 (sFor (sRng (sCons (sArgs lenOp (sCons (sVar 0) sNil)) sNil)) (.name 3)
 (sSeq2 (sAsg 4 false (sLst sNil))
 (sSeq2 (sFor (sSeq (sVar 2)) (.name 5)
 (sSeq2 (sAsg 4 false (sBin .Add (sVar 4) (sComp (sRng (sCons (sIdx (sVar 0) (sVar 3)) (sCons (sBin .Add (sIdx (sVar 1) (sVar 3)) (sCon (.int 1))) sNil))) (.name 6) sYes (sBin .Add (sVar 5) (sTup (sCons (sVar 6) sNil))) (([("x", 6)] : List (Str × Nat)).map (·.2)))))
 sSkip))
 (sSeq2 (sAsg 2 false (sArgs listOp (sCons (sVar 4) sNil)))
 sSkip))))
 (sSeq2 (sRet (sVar 2))
 sSkip)))
def F_law_between : List AV → Mem → Out AV := fnRun 2 7 T_law_between
theorem sc_law_between : FnScope ["v", "w", "found", "p", "longer", "row", "x"] ["v", "w"] (defScope st_law_between) := C8.fnScope_by rfl
theorem ok_law_between {P : Program} {w : World} {K : PySem.W.Frag} {mg : Str → Option Value} {base : Heap} {f : Addr} {fd : FuncData} (F : Fun K "_law_between" "_law_between" st_law_between f fd) (B : Bn mg) : FnOk P w K mg base (L2.CX P w) 1 f fd ["v", "w"] (spOf ⟨K, mg⟩ F_law_between) := by
  refine fn_ok (N := ["v", "w", "found", "p", "longer", "row", "x"]) F sc_law_between (fun cdv A outer s H E hr => ?_)
  have hnd : (["v", "w", "found", "p", "longer", "row", "x"] : List Str).Nodup := sc_law_between.nd
  have hu : (A.deeper (envOfC "_law_between" (defScope st_law_between) s.heap.objs.size f cdv)).units + 65 < cLine := by have := hr.un; omega
  have tk : Takes (cxf P w K mg base ["v", "w", "found", "p", "longer", "row", "x"] "_law_between" st_law_between f cdv A outer s H E) (fun cls d _ H' => E cls d H') := takes_of rfl rfl rfl rfl
  have po : PassesOwn (model P w) (cxf P w K mg base ["v", "w", "found", "p", "longer", "row", "x"] "_law_between" st_law_between f cdv A outer s H E).A (cxf P w K mg base ["v", "w", "found", "p", "longer", "row", "x"] "_law_between" st_law_between f cdv A outer s H E).env (cxf P w K mg base ["v", "w", "found", "p", "longer", "row", "x"] "_law_between" st_law_between f cdv A outer s H E).xe := passes_of rfl
  exact (gs_cons (gs_asg (i := 2) (m := false) hnd (by rfl) (by first | exact Or.inl rfl | exact Or.inr rfl) (ge_lst (gl_one (ge_tup gl_nil))) (by rfl) (.inl rfl))
 (gs_cons (gs_for (t := (.name 3)) po (by rfl) (gi_rng1 (by rfl) B.range (by rfl) (gl_one (gc_len (by rfl) (gl_one (gv 0)) (by rfl) (by rfl) (by rfl) B.len)) (sl_cons sl_nil)) (gg_name (i := 3) hnd (by rfl) (by first | exact Or.inl rfl | exact Or.inr rfl) (by first | exact Or.inl rfl | exact Or.inr rfl))
 (gs_cons (gs_asg (i := 4) (m := false) hnd (by rfl) (by first | exact Or.inl rfl | exact Or.inr rfl) (ge_lst gl_nil) (by rfl) (.inl rfl))
 (gs_cons (gs_for (t := (.name 5)) po (by rfl) (gi_seq (gv 2)) (gg_name (i := 5) hnd (by rfl) (by first | exact Or.inl rfl | exact Or.inr rfl) (by first | exact Or.inl rfl | exact Or.inr rfl))
 (gs_cons (gs_asg (i := 4) (m := false) hnd (by rfl) (by first | exact Or.inl rfl | exact Or.inr rfl) (ge_bin (gv 4) (ge_comp (own := [("x", 6)]) (t := (.name 6)) (by rfl) hnd (gi_rng2 (by rfl) B.range (by rfl) (by rfl) (gl_more (ge_idx (fun _ _ => rfl) (gv 0) (gv 3)) (gl_one (ge_bin (ge_idx (fun _ _ => rfl) (gv 1) (gv 3)) gn_int))) (sl_cons (sl_cons sl_nil))) (blkOk_by (by rfl)) (fun _ _ _ _ _ => (gg_name (i := 6) hnd (by rfl) (by first | exact Or.inl rfl | exact Or.inr rfl) (by first | exact Or.inl rfl | exact Or.inr rfl))) (fun _ _ _ _ _ => gts_nil) (fun _ _ _ _ _ => (ge_bin (gv 5) (ge_tup (gl_one (gv 6))))) (fun _ => rfl) (by decide))) (by rfl) (.inl rfl))
 gs_nil) (fun _ => rfl))
 (gs_cons (gs_asg (i := 2) (m := false) hnd (by rfl) (by first | exact Or.inl rfl | exact Or.inr rfl) (gc_list (by rfl) (gl_one (gv 4)) (by rfl) (by rfl) (by rfl) B.list) (by rfl) (.inl rfl))
 gs_nil))) (fun _ => rfl))
 (gs_cons (gs_ret (gv 2))
 gs_nil)))
/-! ### _law_number -/
abbrev st_law_number : Stmt := top 39
def T_law_number : SS :=
 (sSeq2 (sRet (sArgs sumOp (sCons (sComp (sSeq (sArgs F_law_multiplicities (sCons (sVar 0) (sCons (sVar 1) sNil)))) (.name 2) sYes (sBin .FloorDiv (sBin .Mult (sVar 2) (sBin .Add (sVar 2) (sCon (.int 1)))) (sCon (.int 2))) (([("m", 2)] : List (Str × Nat)).map (·.2))) sNil)))
 sSkip)
def F_law_number : List AV → Mem → Out AV := fnRun 2 3 T_law_number
theorem sc_law_number : FnScope ["points", "w", "m"] ["points", "w"] (defScope st_law_number) := C8.fnScope_by rfl
theorem ok_law_number {P : Program} {w : World} {K : PySem.W.Frag} {mg : Str → Option Value} {base : Heap} {f : Addr} {fd : FuncData} (F : Fun K "_law_number" "_law_number" st_law_number f fd) (B : Bn mg) (c_law_multiplicities : CalD P w K mg base 1 "_law_multiplicities" F_law_multiplicities) : FnOk P w K mg base (L2.CX P w) 2 f fd ["points", "w"] (spOf ⟨K, mg⟩ F_law_number) := by
  refine fn_ok (N := ["points", "w", "m"]) F sc_law_number (fun cdv A outer s H E hr => ?_)
  have hnd : (["points", "w", "m"] : List Str).Nodup := sc_law_number.nd
  have hu : (A.deeper (envOfC "_law_number" (defScope st_law_number) s.heap.objs.size f cdv)).units + 65 < cLine := by have := hr.un; omega
  have tk : Takes (cxf P w K mg base ["points", "w", "m"] "_law_number" st_law_number f cdv A outer s H E) (fun cls d _ H' => E cls d H') := takes_of rfl rfl rfl rfl
  have po : PassesOwn (model P w) (cxf P w K mg base ["points", "w", "m"] "_law_number" st_law_number f cdv A outer s H E).A (cxf P w K mg base ["points", "w", "m"] "_law_number" st_law_number f cdv A outer s H E).env (cxf P w K mg base ["points", "w", "m"] "_law_number" st_law_number f cdv A outer s H E).xe := passes_of rfl
  exact (gs_cons (gs_ret (gc_sum (by rfl) (gl_one (ge_comp (own := [("m", 2)]) (t := (.name 2)) (by rfl) hnd (gi_seq (ge_call (by exact c_law_multiplicities.cald) (hr.mono (by decide)) tk (by rfl) (gl_more (gv 0) (gl_one (gv 1))) (by decide) (by rfl) (by rfl))) (blkOk_by (by rfl)) (fun _ _ _ _ _ => (gg_name (i := 2) hnd (by rfl) (by first | exact Or.inl rfl | exact Or.inr rfl) (by first | exact Or.inl rfl | exact Or.inr rfl))) (fun _ _ _ _ _ => gts_nil) (fun _ _ _ _ _ => (ge_bin (ge_bin (gv 2) (ge_bin (gv 2) gn_int)) gn_int)) (fun _ => rfl) (by decide))) (by rfl) (by rfl) (by rfl) B.sum))
 gs_nil)
/-! ### _law_drawn -/
abbrev st_law_drawn : Stmt := top 40
def T_law_drawn : SS :=
 (sSeq2 (sRet (sArgs tupleOp (sCons (sComp (sRng (sCons (sVar 1) sNil)) (.name 4) sYes (sBin .Add (sVar 2) (sArgs F_law_take (sCons (sVar 0) (sCons (sBin .Add (sBin .Sub (sVar 3) (sVar 2)) (sCon (.int 1))) sNil)))) (([("p", 4)] : List (Str × Nat)).map (·.2))) sNil)))
 sSkip)
def F_law_drawn : List AV → Mem → Out AV := fnRun 4 5 T_law_drawn
theorem sc_law_drawn : FnScope ["state", "many", "low", "high", "p"] ["state", "many", "low", "high"] (defScope st_law_drawn) := C8.fnScope_by rfl
theorem ok_law_drawn {P : Program} {w : World} {K : PySem.W.Frag} {mg : Str → Option Value} {base : Heap} {f : Addr} {fd : FuncData} (F : Fun K "_law_drawn" "_law_drawn" st_law_drawn f fd) (B : Bn mg) (c_law_take : CalD P w K mg base 1 "_law_take" F_law_take) : FnOk P w K mg base (L2.CX P w) 2 f fd ["state", "many", "low", "high"] (spOf ⟨K, mg⟩ F_law_drawn) := by
  refine fn_ok (N := ["state", "many", "low", "high", "p"]) F sc_law_drawn (fun cdv A outer s H E hr => ?_)
  have hnd : (["state", "many", "low", "high", "p"] : List Str).Nodup := sc_law_drawn.nd
  have hu : (A.deeper (envOfC "_law_drawn" (defScope st_law_drawn) s.heap.objs.size f cdv)).units + 65 < cLine := by have := hr.un; omega
  have tk : Takes (cxf P w K mg base ["state", "many", "low", "high", "p"] "_law_drawn" st_law_drawn f cdv A outer s H E) (fun cls d _ H' => E cls d H') := takes_of rfl rfl rfl rfl
  have po : PassesOwn (model P w) (cxf P w K mg base ["state", "many", "low", "high", "p"] "_law_drawn" st_law_drawn f cdv A outer s H E).A (cxf P w K mg base ["state", "many", "low", "high", "p"] "_law_drawn" st_law_drawn f cdv A outer s H E).env (cxf P w K mg base ["state", "many", "low", "high", "p"] "_law_drawn" st_law_drawn f cdv A outer s H E).xe := passes_of rfl
  exact (gs_cons (gs_ret (gc_tuple (by rfl) (gl_one (ge_comp (own := [("p", 4)]) (t := (.name 4)) (by rfl) hnd (gi_rng1 (by rfl) B.range (by rfl) (gl_one (gv 1)) (sl_cons sl_nil)) (blkOk_by (by rfl)) (fun _ _ _ _ _ => (gg_name (i := 4) hnd (by rfl) (by first | exact Or.inl rfl | exact Or.inr rfl) (by first | exact Or.inl rfl | exact Or.inr rfl))) (fun _ _ _ _ _ => gts_nil) (fun _ _ _ _ _ => (ge_bin (gv 2) (ge_call (by exact c_law_take.cald) (hr.mono (by decide)) takesW (by rfl) (gl_more (gv 0) (gl_one (ge_bin (ge_bin (gv 3) (gv 2)) gn_int))) (by decide) (by rfl) (by rfl)))) (fun _ => rfl) (by decide))) (by rfl) (by rfl) (by rfl) B.tuple))
 gs_nil)
/-! ### _law_holds -/
abbrev st_law_holds : Stmt := top 41
def T_law_holds : SS :=
 (sSeq2 (sAsg 3 false (sArgs F_law_done (sCons (sVar 0) (sCons (sVar 1) (sCons (sVar 2) sNil)))))
 (sSeq2 (sIfS (sOrB (sB (sCmp .NotEq (sVar 3) (sArgs F_law_done (sCons (sVar 0) (sCons (sVar 1) (sCons (sVar 2) sNil)))))) (sOrB (sNotB (sB (sArgs F_law_fits (sCons (sVar 1) (sCons (sVar 3) sNil))))) (sOrB (sNotB (sB (sArgs F_law_tells (sCons (sCon (.fn "unloaded")) (sCons (sTup (sCons (sVar 1) (sCons (sVar 2) sNil))) (sCons (sVar 3) sNil)))))) (sNotB (sB (sArgs F_law_tells (sCons (sCon (.fn "unloaded")) (sCons (sTup (sCons (sVar 1) (sCons (sVar 3) sNil))) (sCons (sVar 3) sNil)))))))))
 (sSeq2 (sRet (sCon (.bl false)))
 sSkip)
 sSkip)
 (sSeq2 (sAsg 4 false (sCon (.int 1)))
 (sSeq2 (sFor (sRng (sCons (sArgs lenOp (sCons (sVar 2) sNil)) sNil)) (.name 5)
 (sSeq2 (sAsg 4 false (sBin .Mult (sVar 4) (sBin .Add (sBin .Sub (sIdx (sVar 3) (sVar 5)) (sIdx (sVar 2) (sVar 5))) (sCon (.int 1)))))
 sSkip))
 (sSeq2 (sIfS (sB (sCmp .Lt (sVar 4) (sCon (.int 400))))
 (sSeq2 (sFor (sSeq (sArgs F_law_between (sCons (sVar 2) (sCons (sVar 3) sNil)))) (.name 6)
 (sSeq2 (sIfS (sB (sCmp .NotEq (sArgs F_law_fits (sCons (sVar 1) (sCons (sVar 6) sNil))) (sCmp .Eq (sVar 6) (sVar 3))))
 (sSeq2 (sRet (sCon (.bl false)))
 sSkip)
 sSkip)
 sSkip))
 sSkip)
 sSkip)
 (sSeq2 (sIfS (sB (sCmp .Lt (sArgs minOp2 (sCons (sVar 2) sNil)) (sCon (.int 0))))
 (sSeq2 (sRet (sArgs F_law_raises (sCons (sCon (.fn "ideal_codimension")) (sCons (sTup (sCons (sVar 1) (sCons (sVar 2) sNil))) (sCons (sCon (.str "malformed")) sNil)))))
 sSkip)
 sSkip)
 (sSeq2 (sRet (sAnd (sArgs F_law_tells (sCons (sCon (.fn "ideal_codimension")) (sCons (sTup (sCons (sVar 1) (sCons (sVar 2) sNil))) (sCons (sArgs F_law_number (sCons (sVar 1) (sCons (sVar 3) sNil))) sNil)))) (sArgs F_law_tells (sCons (sCon (.fn "ideal_codimension")) (sCons (sTup (sCons (sVar 1) (sCons (sVar 3) sNil))) (sCons (sArgs F_law_number (sCons (sVar 1) (sCons (sVar 3) sNil))) sNil))))))
 sSkip)))))))
def F_law_holds : List AV → Mem → Out AV := fnRun 3 7 T_law_holds
theorem sc_law_holds : FnScope ["state", "points", "v", "w", "size", "p", "row"] ["state", "points", "v"] (defScope st_law_holds) := C8.fnScope_by rfl
theorem ok_law_holds {P : Program} {w : World} {K : PySem.W.Frag} {mg : Str → Option Value} {base : Heap} {f : Addr} {fd : FuncData} (F : Fun K "_law_holds" "_law_holds" st_law_holds f fd) (B : Bn mg) (c_law_between : CalD P w K mg base 1 "_law_between" F_law_between) (c_law_done : CalD P w K mg base 2 "_law_done" F_law_done) (c_law_fits : CalD P w K mg base 2 "_law_fits" F_law_fits) (c_law_number : CalD P w K mg base 2 "_law_number" F_law_number) (c_law_raises : CalD P w K mg base 10 "_law_raises" F_law_raises) (c_law_tells : CalD P w K mg base 10 "_law_tells" F_law_tells) (cideal_codimension : CalD P w K mg base 7 "ideal_codimension" Fideal_codimension) (cunloaded : CalD P w K mg base 6 "unloaded" Funloaded) : FnOk P w K mg base (L2.CX P w) 11 f fd ["state", "points", "v"] (spOf ⟨K, mg⟩ F_law_holds) := by
  refine fn_ok (N := ["state", "points", "v", "w", "size", "p", "row"]) F sc_law_holds (fun cdv A outer s H E hr => ?_)
  have hnd : (["state", "points", "v", "w", "size", "p", "row"] : List Str).Nodup := sc_law_holds.nd
  have hu : (A.deeper (envOfC "_law_holds" (defScope st_law_holds) s.heap.objs.size f cdv)).units + 65 < cLine := by have := hr.un; omega
  have tk : Takes (cxf P w K mg base ["state", "points", "v", "w", "size", "p", "row"] "_law_holds" st_law_holds f cdv A outer s H E) (fun cls d _ H' => E cls d H') := takes_of rfl rfl rfl rfl
  have po : PassesOwn (model P w) (cxf P w K mg base ["state", "points", "v", "w", "size", "p", "row"] "_law_holds" st_law_holds f cdv A outer s H E).A (cxf P w K mg base ["state", "points", "v", "w", "size", "p", "row"] "_law_holds" st_law_holds f cdv A outer s H E).env (cxf P w K mg base ["state", "points", "v", "w", "size", "p", "row"] "_law_holds" st_law_holds f cdv A outer s H E).xe := passes_of rfl
  exact (gs_cons (gs_asg (i := 3) (m := false) hnd (by rfl) (by first | exact Or.inl rfl | exact Or.inr rfl) (ge_call (by exact c_law_done.cald) (hr.mono (by decide)) tk (by rfl) (gl_more (gv 0) (gl_more (gv 1) (gl_one (gv 2)))) (by decide) (by rfl) (by rfl)) (by rfl) (.inl rfl))
 (gs_cons (gs_if (gb_or (gb_cmp hu (by rfl) (gv 3) (ge_call (by exact c_law_done.cald) (hr.mono (by decide)) tk (by rfl) (gl_more (gv 0) (gl_more (gv 1) (gl_one (gv 2)))) (by decide) (by rfl) (by rfl))) (gb_or (gb_not (gb_truth (ge_call (by exact c_law_fits.cald) (hr.mono (by decide)) tk (by rfl) (gl_more (gv 1) (gl_one (gv 3))) (by decide) (by rfl) (by rfl)) (fun _ => rfl))) (gb_or (gb_not (gb_truth (ge_call (by exact c_law_tells.cald) (hr.mono (by decide)) tk (by rfl) (gl_more (gn_cal (by exact cunloaded.cald) (by rfl) (by decide)) (gl_more (ge_tup (gl_more (gv 1) (gl_one (gv 2)))) (gl_one (gv 3)))) (by decide) (by rfl) (by rfl)) (fun _ => rfl))) (gb_or1 (gb_not (gb_truth (ge_call (by exact c_law_tells.cald) (hr.mono (by decide)) tk (by rfl) (gl_more (gn_cal (by exact cunloaded.cald) (by rfl) (by decide)) (gl_more (ge_tup (gl_more (gv 1) (gl_one (gv 3)))) (gl_one (gv 3)))) (by decide) (by rfl) (by rfl)) (fun _ => rfl))))))).pt
 (gs_cons (gs_ret gn_bl)
 gs_nil)
 gs_nil)
 (gs_cons (gs_asg (i := 4) (m := false) hnd (by rfl) (by first | exact Or.inl rfl | exact Or.inr rfl) gn_int (by rfl) (.inl rfl))
 (gs_cons (gs_for (t := (.name 5)) po (by rfl) (gi_rng1 (by rfl) B.range (by rfl) (gl_one (gc_len (by rfl) (gl_one (gv 2)) (by rfl) (by rfl) (by rfl) B.len)) (sl_cons sl_nil)) (gg_name (i := 5) hnd (by rfl) (by first | exact Or.inl rfl | exact Or.inr rfl) (by first | exact Or.inl rfl | exact Or.inr rfl))
 (gs_cons (gs_asg (i := 4) (m := false) hnd (by rfl) (by first | exact Or.inl rfl | exact Or.inr rfl) (ge_bin (gv 4) (ge_bin (ge_bin (ge_idx (fun _ _ => rfl) (gv 3) (gv 5)) (ge_idx (fun _ _ => rfl) (gv 2) (gv 5))) gn_int)) (by rfl) (.inl rfl))
 gs_nil) (fun _ => rfl))
 (gs_cons (gs_if (gb_cmp hu (by rfl) (gv 4) gn_int)
 (gs_cons (gs_for (t := (.name 6)) po (by rfl) (gi_seq (ge_call (by exact c_law_between.cald) (hr.mono (by decide)) tk (by rfl) (gl_more (gv 2) (gl_one (gv 3))) (by decide) (by rfl) (by rfl))) (gg_name (i := 6) hnd (by rfl) (by first | exact Or.inl rfl | exact Or.inr rfl) (by first | exact Or.inl rfl | exact Or.inr rfl))
 (gs_cons (gs_if (gb_cmp hu (by rfl) (ge_call (by exact c_law_fits.cald) (hr.mono (by decide)) tk (by rfl) (gl_more (gv 1) (gl_one (gv 6))) (by decide) (by rfl) (by rfl)) (ge_cmp hu (by rfl) (gv 6) (gv 3)))
 (gs_cons (gs_ret gn_bl)
 gs_nil)
 gs_nil)
 gs_nil) (fun _ => rfl))
 gs_nil)
 gs_nil)
 (gs_cons (gs_if (gb_cmp hu (by rfl) (gc_min2 hu (by rfl) (gl_one (gv 2)) (by rfl) (by rfl) (by rfl) B.min) gn_int)
 (gs_cons (gs_ret (ge_call (by exact c_law_raises.cald) (hr.mono (by decide)) tk (by rfl) (gl_more (gn_cal (by exact cideal_codimension.cald) (by rfl) (by decide)) (gl_more (ge_tup (gl_more (gv 1) (gl_one (gv 2)))) (gl_one gn_str))) (by decide) (by rfl) (by rfl)))
 gs_nil)
 gs_nil)
 (gs_cons (gs_ret (ge_and (ge_call (by exact c_law_tells.cald) (hr.mono (by decide)) tk (by rfl) (gl_more (gn_cal (by exact cideal_codimension.cald) (by rfl) (by decide)) (gl_more (ge_tup (gl_more (gv 1) (gl_one (gv 2)))) (gl_one (ge_call (by exact c_law_number.cald) (hr.mono (by decide)) tk (by rfl) (gl_more (gv 1) (gl_one (gv 3))) (by decide) (by rfl) (by rfl))))) (by decide) (by rfl) (by rfl)) (ge_one1 (ge_call (by exact c_law_tells.cald) (hr.mono (by decide)) tk (by rfl) (gl_more (gn_cal (by exact cideal_codimension.cald) (by rfl) (by decide)) (gl_more (ge_tup (gl_more (gv 1) (gl_one (gv 3)))) (gl_one (ge_call (by exact c_law_number.cald) (hr.mono (by decide)) tk (by rfl) (gl_more (gv 1) (gl_one (gv 3))) (by decide) (by rfl) (by rfl))))) (by decide) (by rfl) (by rfl)))))
 gs_nil)))))))
/-! ### _law_malformed_holds -/
abbrev st_law_malformed_holds : Stmt := top 42
def T_law_malformed_holds : SS :=
 (sSeq2 (sAsg 2 false (sArgs lenOp (sCons (sVar 1) sNil)))
 (sSeq2 (sAsg 3 false (sArgs F_law_drawn (sCons (sVar 0) (sCons (sVar 2) (sCons (sCon (.int 0)) (sCons (sCon (.int 5)) sNil))))))
 (sSeq2 (sFor (sSeq (sLst (sCons (sCon .non) (sCons (sCon (.int 0)) (sCons (sTup sNil) (sCons (sLst (sCons (sTup sNil) sNil)) (sCons (sTup (sCons (sTup (sCons (sCon (.int 0)) sNil)) sNil)) (sCons (sTup (sCons (sTup sNil) (sCons (sTup (sCons (sCon (.int 1)) sNil)) sNil))) (sCons (sTup (sCons (sTup sNil) (sCons (sTup (sCons (sCon (.int 0)) (sCons (sCon (.int 0)) sNil))) sNil))) (sCons (sTup (sCons (sTup sNil) (sCons (sLst (sCons (sCon (.int 0)) sNil)) sNil))) (sCons (sTup (sCons (sTup sNil) (sCons (sTup (sCons (sCon (.int 0)) sNil)) (sCons (sTup (sCons (sCon (.int 0)) (sCons (sCon (.int 1)) sNil))) sNil)))) (sCons (sTup (sCons (sTup sNil) (sCons (sTup (sCons (sCon (.int 0)) sNil)) (sCons (sTup (sCons (sCon (.int 1)) (sCons (sCon (.int 0)) sNil))) (sCons (sTup (sCons (sCon (.int 1)) (sCons (sCon (.int 0)) sNil))) sNil))))) (sCons (sTup (sCons (sTup sNil) (sCons (sTup (sCons (sCon (.bl true)) sNil)) sNil))) (sCons (sBin .Mult (sTup (sCons (sTup sNil) sNil)) (sCon (.int 2))) sNil)))))))))))))) (.name 4)
 (sSeq2 (sIfS (sOrB (sNotB (sB (sArgs F_law_raises (sCons (sCon (.fn "unloaded")) (sCons (sTup (sCons (sVar 4) (sCons (sVar 3) sNil))) (sCons (sCon (.str "malformed")) sNil)))))) (sNotB (sB (sArgs F_law_raises (sCons (sCon (.fn "ideal_codimension")) (sCons (sTup (sCons (sVar 4) (sCons (sVar 3) sNil))) (sCons (sCon (.str "malformed")) sNil)))))))
 (sSeq2 (sRet (sCon (.bl false)))
 sSkip)
 sSkip)
 sSkip))
 (sSeq2 (sFor (sSeq (sLst (sCons (sCon .non) (sCons (sCon (.int 0)) (sCons (sArgs listOp (sCons (sVar 3) sNil)) (sCons (sBin .Add (sVar 3) (sTup (sCons (sCon (.int 0)) sNil))) (sCons (sSlice (sVar 3) (some (sCon (.int 1))) none) (sCons (sBin .Add (sSlice (sVar 3) (some (sCon (.int 1))) none) (sTup (sCons (sCon (.bl true)) sNil))) (sCons (sBin .Add (sSlice (sVar 3) (some (sCon (.int 1))) none) (sTup (sCons (sCon (.str "1")) sNil))) (sCons (sBin .Add (sSlice (sVar 3) (some (sCon (.int 1))) none) (sTup (sCons (sCon .non) sNil))) (sCons (sBin .Add (sSlice (sVar 3) (some (sCon (.int 1))) none) (sTup (sCons (sCon (.int 100001)) sNil))) (sCons (sBin .Add (sSlice (sVar 3) (some (sCon (.int 1))) none) (sTup (sCons (sTup (sCons (sCon (.int 1)) (sCons (sCon (.int 1)) sNil))) sNil))) sNil)))))))))))) (.name 4)
 (sSeq2 (sIfS (sOrB (sNotB (sB (sArgs F_law_raises (sCons (sCon (.fn "unloaded")) (sCons (sTup (sCons (sVar 1) (sCons (sVar 4) sNil))) (sCons (sCon (.str "malformed")) sNil)))))) (sNotB (sB (sArgs F_law_raises (sCons (sCon (.fn "ideal_codimension")) (sCons (sTup (sCons (sVar 1) (sCons (sVar 4) sNil))) (sCons (sCon (.str "malformed")) sNil)))))))
 (sSeq2 (sRet (sCon (.bl false)))
 sSkip)
 sSkip)
 sSkip))
 (sSeq2 (sRet (sAnd (sArgs F_law_raises (sCons (sCon (.fn "unloaded")) (sCons (sTup (sCons (sVar 1) (sCons (sBin .Add (sSlice (sVar 3) (some (sCon (.int 1))) none) (sTup (sCons (sNeg (sCon (.int 100001))) sNil))) sNil))) (sCons (sCon (.str "malformed")) sNil)))) (sArgs F_law_raises (sCons (sCon (.fn "ideal_codimension")) (sCons (sTup (sCons (sVar 1) (sCons (sBin .Add (sSlice (sVar 3) (some (sCon (.int 1))) none) (sTup (sCons (sNeg (sCon (.int 1))) sNil))) sNil))) (sCons (sCon (.str "malformed")) sNil))))))
 sSkip)))))
def F_law_malformed_holds : List AV → Mem → Out AV := fnRun 2 5 T_law_malformed_holds
theorem sc_law_malformed_holds : FnScope ["state", "points", "many", "v", "bad"] ["state", "points"] (defScope st_law_malformed_holds) := C8.fnScope_by rfl
theorem ok_law_malformed_holds {P : Program} {w : World} {K : PySem.W.Frag} {mg : Str → Option Value} {base : Heap} {f : Addr} {fd : FuncData} (F : Fun K "_law_malformed_holds" "_law_malformed_holds" st_law_malformed_holds f fd) (B : Bn mg) (c_law_drawn : CalD P w K mg base 2 "_law_drawn" F_law_drawn) (c_law_raises : CalD P w K mg base 10 "_law_raises" F_law_raises) (cideal_codimension : CalD P w K mg base 7 "ideal_codimension" Fideal_codimension) (cunloaded : CalD P w K mg base 6 "unloaded" Funloaded) : FnOk P w K mg base (L2.CX P w) 11 f fd ["state", "points"] (spOf ⟨K, mg⟩ F_law_malformed_holds) := by
  refine fn_ok (N := ["state", "points", "many", "v", "bad"]) F sc_law_malformed_holds (fun cdv A outer s H E hr => ?_)
  have hnd : (["state", "points", "many", "v", "bad"] : List Str).Nodup := sc_law_malformed_holds.nd
  have hu : (A.deeper (envOfC "_law_malformed_holds" (defScope st_law_malformed_holds) s.heap.objs.size f cdv)).units + 65 < cLine := by have := hr.un; omega
  have tk : Takes (cxf P w K mg base ["state", "points", "many", "v", "bad"] "_law_malformed_holds" st_law_malformed_holds f cdv A outer s H E) (fun cls d _ H' => E cls d H') := takes_of rfl rfl rfl rfl
  have po : PassesOwn (model P w) (cxf P w K mg base ["state", "points", "many", "v", "bad"] "_law_malformed_holds" st_law_malformed_holds f cdv A outer s H E).A (cxf P w K mg base ["state", "points", "many", "v", "bad"] "_law_malformed_holds" st_law_malformed_holds f cdv A outer s H E).env (cxf P w K mg base ["state", "points", "many", "v", "bad"] "_law_malformed_holds" st_law_malformed_holds f cdv A outer s H E).xe := passes_of rfl
  exact (gs_cons (gs_asg (i := 2) (m := false) hnd (by rfl) (by first | exact Or.inl rfl | exact Or.inr rfl) (gc_len (by rfl) (gl_one (gv 1)) (by rfl) (by rfl) (by rfl) B.len) (by rfl) (.inl rfl))
 (gs_cons (gs_asg (i := 3) (m := false) hnd (by rfl) (by first | exact Or.inl rfl | exact Or.inr rfl) (ge_call (by exact c_law_drawn.cald) (hr.mono (by decide)) tk (by rfl) (gl_more (gv 0) (gl_more (gv 2) (gl_more gn_int (gl_one gn_int)))) (by decide) (by rfl) (by rfl)) (by rfl) (.inl rfl))
 (gs_cons (gs_for (t := (.name 4)) po (by rfl) (gi_seq (ge_lst (gl_more gn_non (gl_more gn_int (gl_more (ge_tup gl_nil) (gl_more (ge_lst (gl_one (ge_tup gl_nil))) (gl_more (ge_tup (gl_one (ge_tup (gl_one gn_int)))) (gl_more (ge_tup (gl_more (ge_tup gl_nil) (gl_one (ge_tup (gl_one gn_int))))) (gl_more (ge_tup (gl_more (ge_tup gl_nil) (gl_one (ge_tup (gl_more gn_int (gl_one gn_int)))))) (gl_more (ge_tup (gl_more (ge_tup gl_nil) (gl_one (ge_lst (gl_one gn_int))))) (gl_more (ge_tup (gl_more (ge_tup gl_nil) (gl_more (ge_tup (gl_one gn_int)) (gl_one (ge_tup (gl_more gn_int (gl_one gn_int))))))) (gl_more (ge_tup (gl_more (ge_tup gl_nil) (gl_more (ge_tup (gl_one gn_int)) (gl_more (ge_tup (gl_more gn_int (gl_one gn_int))) (gl_one (ge_tup (gl_more gn_int (gl_one gn_int)))))))) (gl_more (ge_tup (gl_more (ge_tup gl_nil) (gl_one (ge_tup (gl_one gn_bl))))) (gl_one (ge_bin (ge_tup (gl_one (ge_tup gl_nil))) gn_int))))))))))))))) (gg_name (i := 4) hnd (by rfl) (by first | exact Or.inl rfl | exact Or.inr rfl) (by first | exact Or.inl rfl | exact Or.inr rfl))
 (gs_cons (gs_if (gb_or (gb_not (gb_truth (ge_call (by exact c_law_raises.cald) (hr.mono (by decide)) tk (by rfl) (gl_more (gn_cal (by exact cunloaded.cald) (by rfl) (by decide)) (gl_more (ge_tup (gl_more (gv 4) (gl_one (gv 3)))) (gl_one gn_str))) (by decide) (by rfl) (by rfl)) (fun _ => rfl))) (gb_or1 (gb_not (gb_truth (ge_call (by exact c_law_raises.cald) (hr.mono (by decide)) tk (by rfl) (gl_more (gn_cal (by exact cideal_codimension.cald) (by rfl) (by decide)) (gl_more (ge_tup (gl_more (gv 4) (gl_one (gv 3)))) (gl_one gn_str))) (by decide) (by rfl) (by rfl)) (fun _ => rfl))))).pt
 (gs_cons (gs_ret gn_bl)
 gs_nil)
 gs_nil)
 gs_nil) (fun _ => rfl))
 (gs_cons (gs_for (t := (.name 4)) po (by rfl) (gi_seq (ge_lst (gl_more gn_non (gl_more gn_int (gl_more (gc_list (by rfl) (gl_one (gv 3)) (by rfl) (by rfl) (by rfl) B.list) (gl_more (ge_bin (gv 3) (ge_tup (gl_one gn_int))) (gl_more (gk_10 (gv 3) gn_int) (gl_more (ge_bin (gk_10 (gv 3) gn_int) (ge_tup (gl_one gn_bl))) (gl_more (ge_bin (gk_10 (gv 3) gn_int) (ge_tup (gl_one gn_str))) (gl_more (ge_bin (gk_10 (gv 3) gn_int) (ge_tup (gl_one gn_non))) (gl_more (ge_bin (gk_10 (gv 3) gn_int) (ge_tup (gl_one gn_int))) (gl_one (ge_bin (gk_10 (gv 3) gn_int) (ge_tup (gl_one (ge_tup (gl_more gn_int (gl_one gn_int)))))))))))))))))) (gg_name (i := 4) hnd (by rfl) (by first | exact Or.inl rfl | exact Or.inr rfl) (by first | exact Or.inl rfl | exact Or.inr rfl))
 (gs_cons (gs_if (gb_or (gb_not (gb_truth (ge_call (by exact c_law_raises.cald) (hr.mono (by decide)) tk (by rfl) (gl_more (gn_cal (by exact cunloaded.cald) (by rfl) (by decide)) (gl_more (ge_tup (gl_more (gv 1) (gl_one (gv 4)))) (gl_one gn_str))) (by decide) (by rfl) (by rfl)) (fun _ => rfl))) (gb_or1 (gb_not (gb_truth (ge_call (by exact c_law_raises.cald) (hr.mono (by decide)) tk (by rfl) (gl_more (gn_cal (by exact cideal_codimension.cald) (by rfl) (by decide)) (gl_more (ge_tup (gl_more (gv 1) (gl_one (gv 4)))) (gl_one gn_str))) (by decide) (by rfl) (by rfl)) (fun _ => rfl))))).pt
 (gs_cons (gs_ret gn_bl)
 gs_nil)
 gs_nil)
 gs_nil) (fun _ => rfl))
 (gs_cons (gs_ret (ge_and (ge_call (by exact c_law_raises.cald) (hr.mono (by decide)) tk (by rfl) (gl_more (gn_cal (by exact cunloaded.cald) (by rfl) (by decide)) (gl_more (ge_tup (gl_more (gv 1) (gl_one (ge_bin (gk_10 (gv 3) gn_int) (ge_tup (gl_one (ge_neg gn_int))))))) (gl_one gn_str))) (by decide) (by rfl) (by rfl)) (ge_one1 (ge_call (by exact c_law_raises.cald) (hr.mono (by decide)) tk (by rfl) (gl_more (gn_cal (by exact cideal_codimension.cald) (by rfl) (by decide)) (gl_more (ge_tup (gl_more (gv 1) (gl_one (ge_bin (gk_10 (gv 3) gn_int) (ge_tup (gl_one (ge_neg gn_int))))))) (gl_one gn_str))) (by decide) (by rfl) (by rfl)))))
 gs_nil)))))
/-! ### law -/
abbrev stlaw : Stmt := top 43
def Tlaw : SS :=
 (sSeq2 (sAsg 1 true (sArgs F_law_state (sCons (sVar 0) sNil)))
 (sSeq2 (sAsg 2 false (sArgs F_law_points (sCons (sVar 1) (sCons (sBin .Add (sCon (.int 1)) (sArgs F_law_take (sCons (sVar 1) (sCons (sCon (.int 4)) sNil)))) sNil))))
 (sSeq2 (sAsg 3 false (sArgs F_law_points (sCons (sVar 1) (sCons (sBin .Add (sCon (.int 5)) (sArgs F_law_take (sCons (sVar 1) (sCons (sCon (.int 8)) sNil)))) sNil))))
 (sSeq2 (sFor (sSeq (sLst (sCons (sTup (sCons (sVar 2) (sCons (sCon (.int 0)) (sCons (sCon (.int 4)) sNil)))) (sCons (sTup (sCons (sVar 2) (sCons (sNeg (sCon (.int 3))) (sCons (sCon (.int 3)) sNil)))) (sCons (sTup (sCons (sVar 3) (sCons (sCon (.int 0)) (sCons (sCon (.int 9)) sNil)))) (sCons (sTup (sCons (sVar 3) (sCons (sNeg (sCon (.int 6))) (sCons (sCon (.int 20)) sNil)))) sNil)))))) (.tup (.cons (.name 6) (.cons (.name 7) (.cons (.name 8) .nil))))
 (sSeq2 (sIfS (sNotB (sB (sArgs F_law_holds (sCons (sVar 1) (sCons (sVar 6) (sCons (sArgs F_law_drawn (sCons (sVar 1) (sCons (sArgs lenOp (sCons (sVar 6) sNil)) (sCons (sVar 7) (sCons (sVar 8) sNil))))) sNil))))))
 (sSeq2 (sRet (sCon (.bl false)))
 sSkip)
 sSkip)
 sSkip))
 (sSeq2 (sAsgT (.tup (.cons (.name 9) (.cons (.name 10) .nil))) (sTup (sCons (sArgs F_law_done (sCons (sVar 1) (sCons (sVar 3) (sCons (sArgs F_law_drawn (sCons (sVar 1) (sCons (sArgs lenOp (sCons (sVar 3) sNil)) (sCons (sCon (.int 0)) (sCons (sCon (.int 7)) sNil))))) sNil)))) (sCons (sArgs F_law_done (sCons (sVar 1) (sCons (sVar 3) (sCons (sArgs F_law_drawn (sCons (sVar 1) (sCons (sArgs lenOp (sCons (sVar 3) sNil)) (sCons (sCon (.int 0)) (sCons (sCon (.int 7)) sNil))))) sNil)))) sNil))))
 (sSeq2 (sAsg 4 false (sArgs tupleOp (sCons (sComp (sRng (sCons (sArgs lenOp (sCons (sVar 3) sNil)) sNil)) (.name 11) sYes (sBin .Add (sIdx (sVar 9) (sVar 11)) (sIdx (sVar 10) (sVar 11))) (([("p", 11)] : List (Str × Nat)).map (·.2))) sNil)))
 (sSeq2 (sAsg 5 false (sArgs tupleOp (sCons (sComp (sRng (sCons (sArgs lenOp (sCons (sVar 3) sNil)) sNil)) (.name 11) sYes (sArgs minOp2 (sCons (sIdx (sVar 9) (sVar 11)) (sCons (sIdx (sVar 10) (sVar 11)) sNil))) (([("p", 11)] : List (Str × Nat)).map (·.2))) sNil)))
 (sSeq2 (sIfS (sOrB (sNotB (sB (sArgs F_law_tells (sCons (sCon (.fn "unloaded")) (sCons (sTup (sCons (sVar 3) (sCons (sVar 4) sNil))) (sCons (sVar 4) sNil)))))) (sNotB (sB (sArgs F_law_tells (sCons (sCon (.fn "unloaded")) (sCons (sTup (sCons (sVar 3) (sCons (sVar 5) sNil))) (sCons (sVar 5) sNil)))))))
 (sSeq2 (sRet (sCon (.bl false)))
 sSkip)
 sSkip)
 (sSeq2 (sRet (sArgs F_law_malformed_holds (sCons (sVar 1) (sCons (sVar 3) sNil))))
 sSkip)))))))))
def Flaw : List AV → Mem → Out AV := fnRun 1 12 Tlaw
theorem sclaw : FnScope ["script", "state", "few", "more", "both", "least", "points", "low", "high", "one", "two", "p"] ["script"] (defScope stlaw) := C8.fnScope_by rfl
theorem oklaw {P : Program} {w : World} {K : PySem.W.Frag} {mg : Str → Option Value} {base : Heap} {f : Addr} {fd : FuncData} (F : Fun K "law" "law" stlaw f fd) (B : Bn mg) (c_law_done : CalD P w K mg base 2 "_law_done" F_law_done) (c_law_drawn : CalD P w K mg base 2 "_law_drawn" F_law_drawn) (c_law_holds : CalD P w K mg base 11 "_law_holds" F_law_holds) (c_law_malformed_holds : CalD P w K mg base 11 "_law_malformed_holds" F_law_malformed_holds) (c_law_points : CalD P w K mg base 2 "_law_points" F_law_points) (c_law_state : CalD P w K mg base 1 "_law_state" F_law_state) (c_law_take : CalD P w K mg base 1 "_law_take" F_law_take) (c_law_tells : CalD P w K mg base 10 "_law_tells" F_law_tells) (cunloaded : CalD P w K mg base 6 "unloaded" Funloaded) : FnOk P w K mg base (L2.CX P w) 12 f fd ["script"] (spOf ⟨K, mg⟩ Flaw) := by
  refine fn_ok (N := ["script", "state", "few", "more", "both", "least", "points", "low", "high", "one", "two", "p"]) F sclaw (fun cdv A outer s H E hr => ?_)
  have hnd : (["script", "state", "few", "more", "both", "least", "points", "low", "high", "one", "two", "p"] : List Str).Nodup := sclaw.nd
  have hu : (A.deeper (envOfC "law" (defScope stlaw) s.heap.objs.size f cdv)).units + 65 < cLine := by have := hr.un; omega
  have tk : Takes (cxf P w K mg base ["script", "state", "few", "more", "both", "least", "points", "low", "high", "one", "two", "p"] "law" stlaw f cdv A outer s H E) (fun cls d _ H' => E cls d H') := takes_of rfl rfl rfl rfl
  have po : PassesOwn (model P w) (cxf P w K mg base ["script", "state", "few", "more", "both", "least", "points", "low", "high", "one", "two", "p"] "law" stlaw f cdv A outer s H E).A (cxf P w K mg base ["script", "state", "few", "more", "both", "least", "points", "low", "high", "one", "two", "p"] "law" stlaw f cdv A outer s H E).env (cxf P w K mg base ["script", "state", "few", "more", "both", "least", "points", "low", "high", "one", "two", "p"] "law" stlaw f cdv A outer s H E).xe := passes_of rfl
  exact (gs_cons (gs_asg (i := 1) (m := true) hnd (by rfl) (by first | exact Or.inl rfl | exact Or.inr rfl) (ge_call (by exact c_law_state.cald) (hr.mono (by decide)) tk (by rfl) (gl_one (gv 0)) (by decide) (by rfl) (by rfl)) (by rfl) (.inl rfl))
 (gs_cons (gs_asg (i := 2) (m := false) hnd (by rfl) (by first | exact Or.inl rfl | exact Or.inr rfl) (ge_call (by exact c_law_points.cald) (hr.mono (by decide)) tk (by rfl) (gl_more (gv 1) (gl_one (ge_bin gn_int (ge_call (by exact c_law_take.cald) (hr.mono (by decide)) tk (by rfl) (gl_more (gv 1) (gl_one gn_int)) (by decide) (by rfl) (by rfl))))) (by decide) (by rfl) (by rfl)) (by rfl) (.inl rfl))
 (gs_cons (gs_asg (i := 3) (m := false) hnd (by rfl) (by first | exact Or.inl rfl | exact Or.inr rfl) (ge_call (by exact c_law_points.cald) (hr.mono (by decide)) tk (by rfl) (gl_more (gv 1) (gl_one (ge_bin gn_int (ge_call (by exact c_law_take.cald) (hr.mono (by decide)) tk (by rfl) (gl_more (gv 1) (gl_one gn_int)) (by decide) (by rfl) (by rfl))))) (by decide) (by rfl) (by rfl)) (by rfl) (.inl rfl))
 (gs_cons (gs_for (t := (.tup (.cons (.name 6) (.cons (.name 7) (.cons (.name 8) .nil))))) po (by rfl) (gi_seq (ge_lst (gl_more (ge_tup (gl_more (gv 2) (gl_more gn_int (gl_one gn_int)))) (gl_more (ge_tup (gl_more (gv 2) (gl_more (ge_neg gn_int) (gl_one gn_int)))) (gl_more (ge_tup (gl_more (gv 3) (gl_more gn_int (gl_one gn_int)))) (gl_one (ge_tup (gl_more (gv 3) (gl_more (ge_neg gn_int) (gl_one gn_int)))))))))) (gg_tup (n := 3) (by rfl) (gg_cons (gg_name (i := 6) hnd (by rfl) (by first | exact Or.inl rfl | exact Or.inr rfl) (by first | exact Or.inl rfl | exact Or.inr rfl)) (gg_cons (gg_name (i := 7) hnd (by rfl) (by first | exact Or.inl rfl | exact Or.inr rfl) (by first | exact Or.inl rfl | exact Or.inr rfl)) (gg_cons (gg_name (i := 8) hnd (by rfl) (by first | exact Or.inl rfl | exact Or.inr rfl) (by first | exact Or.inl rfl | exact Or.inr rfl)) gg_nil (by rfl)) (by rfl)) (by rfl)) (by rfl) (by rfl) (tg_lenS (tg_lenS (tg_lenS tg_len0))))
 (gs_cons (gs_if (gb_not (gb_truth (ge_call (by exact c_law_holds.cald) (hr.mono (by decide)) tk (by rfl) (gl_more (gv 1) (gl_more (gv 6) (gl_one (ge_call (by exact c_law_drawn.cald) (hr.mono (by decide)) tk (by rfl) (gl_more (gv 1) (gl_more (gc_len (by rfl) (gl_one (gv 6)) (by rfl) (by rfl) (by rfl) B.len) (gl_more (gv 7) (gl_one (gv 8))))) (by decide) (by rfl) (by rfl))))) (by decide) (by rfl) (by rfl)) (fun _ => rfl)))
 (gs_cons (gs_ret gn_bl)
 gs_nil)
 gs_nil)
 gs_nil) (fun _ => rfl))
 (gs_cons (gs_asgT (t := (.tup (.cons (.name 9) (.cons (.name 10) .nil)))) (ge_tup (gl_more (ge_call (by exact c_law_done.cald) (hr.mono (by decide)) tk (by rfl) (gl_more (gv 1) (gl_more (gv 3) (gl_one (ge_call (by exact c_law_drawn.cald) (hr.mono (by decide)) tk (by rfl) (gl_more (gv 1) (gl_more (gc_len (by rfl) (gl_one (gv 3)) (by rfl) (by rfl) (by rfl) B.len) (gl_more gn_int (gl_one gn_int)))) (by decide) (by rfl) (by rfl))))) (by decide) (by rfl) (by rfl)) (gl_one (ge_call (by exact c_law_done.cald) (hr.mono (by decide)) tk (by rfl) (gl_more (gv 1) (gl_more (gv 3) (gl_one (ge_call (by exact c_law_drawn.cald) (hr.mono (by decide)) tk (by rfl) (gl_more (gv 1) (gl_more (gc_len (by rfl) (gl_one (gv 3)) (by rfl) (by rfl) (by rfl) B.len) (gl_more gn_int (gl_one gn_int)))) (by decide) (by rfl) (by rfl))))) (by decide) (by rfl) (by rfl))))) (gg_tup (n := 2) (by rfl) (gg_cons (gg_name (i := 9) hnd (by rfl) (by first | exact Or.inl rfl | exact Or.inr rfl) (by first | exact Or.inl rfl | exact Or.inr rfl)) (gg_cons (gg_name (i := 10) hnd (by rfl) (by first | exact Or.inl rfl | exact Or.inr rfl) (by first | exact Or.inl rfl | exact Or.inr rfl)) gg_nil (by rfl)) (by rfl)) (by rfl) (by rfl) (tg_lenS (tg_lenS tg_len0))) (by rfl) (by rfl) (by rfl))
 (gs_cons (gs_asg (i := 4) (m := false) hnd (by rfl) (by first | exact Or.inl rfl | exact Or.inr rfl) (gc_tuple (by rfl) (gl_one (ge_comp (own := [("p", 11)]) (t := (.name 11)) (by rfl) hnd (gi_rng1 (by rfl) B.range (by rfl) (gl_one (gc_len (by rfl) (gl_one (gv 3)) (by rfl) (by rfl) (by rfl) B.len)) (sl_cons sl_nil)) (blkOk_by (by rfl)) (fun _ _ _ _ _ => (gg_name (i := 11) hnd (by rfl) (by first | exact Or.inl rfl | exact Or.inr rfl) (by first | exact Or.inl rfl | exact Or.inr rfl))) (fun _ _ _ _ _ => gts_nil) (fun _ _ _ _ _ => (ge_bin (ge_idx (fun _ _ => rfl) (gv 9) (gv 11)) (ge_idx (fun _ _ => rfl) (gv 10) (gv 11)))) (fun _ => rfl) (by decide))) (by rfl) (by rfl) (by rfl) B.tuple) (by rfl) (.inl rfl))
 (gs_cons (gs_asg (i := 5) (m := false) hnd (by rfl) (by first | exact Or.inl rfl | exact Or.inr rfl) (gc_tuple (by rfl) (gl_one (ge_comp (own := [("p", 11)]) (t := (.name 11)) (by rfl) hnd (gi_rng1 (by rfl) B.range (by rfl) (gl_one (gc_len (by rfl) (gl_one (gv 3)) (by rfl) (by rfl) (by rfl) B.len)) (sl_cons sl_nil)) (blkOk_by (by rfl)) (fun _ _ _ _ _ => (gg_name (i := 11) hnd (by rfl) (by first | exact Or.inl rfl | exact Or.inr rfl) (by first | exact Or.inl rfl | exact Or.inr rfl))) (fun _ _ _ _ _ => gts_nil) (fun _ _ _ _ _ => (gc_min2 hu (by rfl) (gl_more (ge_idx (fun _ _ => rfl) (gv 9) (gv 11)) (gl_one (ge_idx (fun _ _ => rfl) (gv 10) (gv 11)))) (by rfl) (by rfl) (by rfl) B.min)) (fun _ => rfl) (by decide))) (by rfl) (by rfl) (by rfl) B.tuple) (by rfl) (.inl rfl))
 (gs_cons (gs_if (gb_or (gb_not (gb_truth (ge_call (by exact c_law_tells.cald) (hr.mono (by decide)) tk (by rfl) (gl_more (gn_cal (by exact cunloaded.cald) (by rfl) (by decide)) (gl_more (ge_tup (gl_more (gv 3) (gl_one (gv 4)))) (gl_one (gv 4)))) (by decide) (by rfl) (by rfl)) (fun _ => rfl))) (gb_or1 (gb_not (gb_truth (ge_call (by exact c_law_tells.cald) (hr.mono (by decide)) tk (by rfl) (gl_more (gn_cal (by exact cunloaded.cald) (by rfl) (by decide)) (gl_more (ge_tup (gl_more (gv 3) (gl_one (gv 5)))) (gl_one (gv 5)))) (by decide) (by rfl) (by rfl)) (fun _ => rfl))))).pt
 (gs_cons (gs_ret gn_bl)
 gs_nil)
 gs_nil)
 (gs_cons (gs_ret (ge_call (by exact c_law_malformed_holds.cald) (hr.mono (by decide)) tk (by rfl) (gl_more (gv 1) (gl_one (gv 3))) (by decide) (by rfl) (by rfl)))
 gs_nil)))))))))
local macro_rules | `(tactic| wtm_at "mpl") => `(tactic| first | (simp only [List.length_append, List.length_map, List.length_cons, List.length_nil, List.length_take, List.length_drop, List.length_reverse, List.length_replicate]; omega))
local macro_rules | `(tactic| wtm_at "mpA") => `(tactic| first | ((with_reducible refine g_el ?_); (first | ((with_reducible refine g_av ?_); (first | (with_reducible refine e_con ?_) | ((with_reducible apply e_var); rfl) | ((with_reducible apply e_varC); rfl) | (with_reducible refine e_args ?_) | (with_reducible refine e_bin ?_) | (with_reducible refine e_cmp ?_) | (with_reducible refine e_idx ?_) | (with_reducible refine e_ok ?_) | (with_reducible refine e_iff ?_) | (with_reducible refine e_tup ?_) | (with_reducible refine e_lst ?_) | (with_reducible refine e_and ?_) | (with_reducible refine e_or ?_) | (with_reducible refine e_not ?_) | (with_reducible refine e_chain ?_) | (with_reducible refine e_neg ?_) | (with_reducible refine e_isi ?_) | (with_reducible refine e_slice ?_) | (with_reducible refine e_inD ?_) | (with_reducible refine e_meth ?_) | (with_reducible refine e_comp ?_) | (with_reducible refine e_callV ?_) | (with_reducible refine e_rev ?_) | ((with_reducible apply e_varS); rfl))) | ((with_reducible refine g_fl ?_); (first | (with_reducible refine e_seq ?_) | (with_reducible refine e_asg ?_) | (with_reducible refine e_ok ?_) | (with_reducible refine e_skip ?_) | (with_reducible refine e_ifS ?_) | (with_reducible refine e_expr ?_) | (with_reducible refine e_ret ?_) | (with_reducible refine e_for ?_) | (with_reducible refine e_retN ?_) | (with_reducible refine e_brk ?_) | (with_reducible refine e_cont ?_) | (with_reducible refine e_raise ?_) | (with_reducible refine e_tryS ?_) | (with_reducible refine e_asgT ?_) | (with_reducible refine e_par2 ?_) | (with_reducible refine e_par3 ?_) | (with_reducible refine e_setI ?_) | (with_reducible refine e_newD ?_) | (with_reducible refine e_putD ?_) | ((with_reducible apply e_aug); rfl))) | ((with_reducible refine g_ls ?_); (first | (with_reducible refine l_cons ?_) | (with_reducible refine l_nil ?_) | (with_reducible refine e_ok ?_))) | ((with_reducible refine g_bl ?_); (first | (with_reducible refine b_sB ?_) | (with_reducible refine b_and ?_) | (with_reducible refine b_or ?_) | (with_reducible refine b_not ?_) | (with_reducible refine b_yes ?_) | (with_reducible refine e_ok ?_))) | (with_reducible refine i_seq ?_) | (with_reducible refine i_rng ?_) | (with_reducible refine i_itm ?_) | (with_reducible refine sp_0 ?_) | (with_reducible refine sp_1 ?_) | (with_reducible refine e_ok ?_))) | ((with_reducible refine g_fk ?_); (first | (with_reducible refine k_next ?_) | (with_reducible refine k_ret ?_) | (with_reducible refine k_brk ?_) | (with_reducible refine k_cont ?_))) | ((with_reducible refine g_st ?_); (first | (with_reducible refine s_d ?_) | (with_reducible refine s_c ?_) | (with_reducible refine s_f ?_) | (with_reducible refine s_s ?_))) | ((with_reducible refine g_asg ?_); (first | (with_reducible refine a_d ?_) | (with_reducible refine a_c ?_) | (with_reducible refine a_f ?_) | (with_reducible refine a_m ?_))) | ((with_reducible refine g_asp ?_); (first | (with_reducible refine ap_d ?_) | (with_reducible refine ap_c ?_) | (with_reducible refine ap_f ?_) | (with_reducible refine ap_m ?_))))
local macro_rules | `(tactic| wtm_at "mp0") => `(tactic| first | ((with_reducible refine g_el ?_); (first | ((with_reducible refine g_bin ?_); (first | (with_reducible refine p_add ?_) | (with_reducible refine p_sub ?_) | ((with_reducible apply p_mul); first | (exact mul_l (by omega) (by omega)) | (exact mul_r (by omega) (by omega))) | (with_reducible refine p_div (by omega) (div_s (by omega) (by omega)) ?_) | (with_reducible refine p_mod (by omega) ?_))) | ((with_reducible refine g_cmp ?_); (first | (with_reducible refine p_lt ?_) | (with_reducible refine p_le ?_) | (with_reducible refine p_gt ?_) | (with_reducible refine p_ge ?_) | (with_reducible refine p_eqI ?_) | (with_reducible refine p_neI ?_) | (with_reducible refine p_isN ?_) | (with_reducible refine p_notN ?_) | (with_reducible refine p_isB ?_) | (with_reducible refine p_notB ?_) | ((with_reducible apply p_eq); (first | rfl | (exact ok_str (by decide +kernel)) | (decide +kernel)); (first | rfl | (exact ok_str (by decide +kernel)) | (decide +kernel))) | ((with_reducible apply p_ne); (first | rfl | (exact ok_str (by decide +kernel)) | (decide +kernel)); (first | rfl | (exact ok_str (by decide +kernel)) | (decide +kernel))))) | (with_reducible refine p_neg ?_) | (with_reducible refine p_int ?_) | (with_reducible refine p_abs ?_) | (with_reducible refine p_max ?_) | (with_reducible refine p_min ?_) | (with_reducible refine p_max2 ?_) | (with_reducible refine p_min2 ?_) | (with_reducible refine p_lenT ?_) | (with_reducible refine p_lenL ?_) | (with_reducible refine p_revT ?_) | (with_reducible refine p_iadd ?_) | (with_reducible refine cut_S ?_) | (with_reducible refine cut_L ?_) | (with_reducible refine cut_F ?_) | (with_reducible refine cut_T ?_) | ((with_reducible apply p_isiT); rfl; decide +kernel) | ((with_reducible apply p_isiF); rfl; decide +kernel) | ((with_reducible apply p_all); rfl) | ((with_reducible apply p_any); rfl) | ((with_reducible apply p_idx); rfl) | ((with_reducible apply e_guard); rfl))) | ((with_reducible refine g_cond ?_); (first | (with_reducible refine e_condT ?_) | (with_reducible refine e_condF ?_) | ((with_reducible apply e_condTe); (first | rfl | (decide +kernel))) | ((with_reducible apply e_condFe); (first | rfl | (decide +kernel))) | ((with_reducible apply e_condPT); omega) | ((with_reducible apply e_condPF); omega) | ((with_reducible apply e_condNT); omega) | ((with_reducible apply e_condNF); omega))) | ((with_reducible refine g_opt ?_); (first | (with_reducible refine o_bl ?_) | (with_reducible refine o_int ?_) | (with_reducible refine o_b ?_) | (with_reducible refine o_lt ?_) | (with_reducible refine o_le ?_) | (with_reducible refine o_itF ?_) | (with_reducible refine o_itL ?_) | (with_reducible refine o_itT ?_) | ((with_reducible apply o_rngN); (first | (focus (simp; done)) | omega)) | (with_reducible refine o_rngI (by omega) (by omega) ?_) | (with_reducible refine o_rng2 (by omega) (by omega) ?_) | ((with_reducible apply o_eq); rfl))) | (with_reducible exact r_d) | ((with_reducible refine Eq.trans r_d ?_); rfl) | (with_reducible exact r_x) | (with_reducible exact r_n) | (with_reducible exact r_c) | ((with_reducible apply t_k); rfl; (first | (focus (simp; done)) | omega)) | (with_reducible refine gk_L ?_) | ((with_reducible apply gk_t); rfl) | ((with_reducible apply m_appL); (first | (focus (simp; done)) | omega)) | ((with_reducible apply m_extL); (first | (focus (simp; done)) | omega)) | ((with_reducible apply pick_fn); rfl) | ((with_reducible apply st_d); rfl; rfl) | (with_reducible refine pk_i ?_) | ((with_reducible apply c_d); (first | (focus (simp; done)) | omega)) | ((with_reducible apply h_some); rfl) | ((with_reducible apply g_d); rfl))
local macro_rules | `(tactic| wtm_at "mp1") => `(tactic| first | ((with_reducible refine g_el ?_); (first | ((with_reducible refine g_bin ?_); (first | (with_reducible refine p_add ?_) | (with_reducible refine p_sub ?_) | ((with_reducible apply p_mul); first | (exact mul_l (by omega) (by omega)) | (exact mul_r (by omega) (by omega))) | (with_reducible refine p_div (by omega) (div_s (by omega) (by omega)) ?_) | (with_reducible refine p_mod (by omega) ?_))) | ((with_reducible refine g_cmp ?_); (first | (with_reducible refine p_lt ?_) | (with_reducible refine p_le ?_) | (with_reducible refine p_gt ?_) | (with_reducible refine p_ge ?_) | (with_reducible refine p_eqI ?_) | (with_reducible refine p_neI ?_) | (with_reducible refine p_isN ?_) | (with_reducible refine p_notN ?_) | (with_reducible refine p_isB ?_) | (with_reducible refine p_notB ?_) | ((with_reducible apply p_eq); (first | rfl | (exact ok_str (by decide +kernel)) | (decide +kernel)); (first | rfl | (exact ok_str (by decide +kernel)) | (decide +kernel))) | ((with_reducible apply p_ne); (first | rfl | (exact ok_str (by decide +kernel)) | (decide +kernel)); (first | rfl | (exact ok_str (by decide +kernel)) | (decide +kernel))))) | (with_reducible refine p_neg ?_) | (with_reducible refine p_int ?_) | (with_reducible refine p_abs ?_) | (with_reducible refine p_max ?_) | (with_reducible refine p_min ?_) | (with_reducible refine p_max2 ?_) | (with_reducible refine p_min2 ?_) | (with_reducible refine p_lenT ?_) | (with_reducible refine p_lenL ?_) | (with_reducible refine p_revT ?_) | (with_reducible refine p_iadd ?_) | (with_reducible refine cut_S ?_) | (with_reducible refine cut_L ?_) | (with_reducible refine cut_F ?_) | (with_reducible refine cut_T ?_) | ((with_reducible apply p_isiT); rfl; decide +kernel) | ((with_reducible apply p_isiF); rfl; decide +kernel) | ((with_reducible apply p_all); rfl) | ((with_reducible apply p_any); rfl) | ((with_reducible apply p_idx); rfl) | ((with_reducible apply c_cons); rfl; rfl) | ((with_reducible apply c_nil); rfl) | ((with_reducible apply e_guard); rfl))) | ((with_reducible refine g_cond ?_); (first | (with_reducible refine e_condT ?_) | (with_reducible refine e_condF ?_) | ((with_reducible apply e_condTe); (first | rfl | (decide +kernel))) | ((with_reducible apply e_condFe); (first | rfl | (decide +kernel))) | ((with_reducible apply e_condPT); omega) | ((with_reducible apply e_condPF); omega) | ((with_reducible apply e_condNT); omega) | ((with_reducible apply e_condNF); omega))) | ((with_reducible refine g_opt ?_); (first | (with_reducible refine o_bl ?_) | (with_reducible refine o_int ?_) | (with_reducible refine o_b ?_) | (with_reducible refine o_lt ?_) | (with_reducible refine o_le ?_) | (with_reducible refine o_itF ?_) | (with_reducible refine o_itL ?_) | (with_reducible refine o_itT ?_) | ((with_reducible apply o_rngN); (first | (focus (simp; done)) | omega)) | (with_reducible refine o_rngI (by omega) (by omega) ?_) | (with_reducible refine o_rng2 (by omega) (by omega) ?_) | ((with_reducible apply o_eq); rfl))) | (with_reducible exact r_d) | ((with_reducible refine Eq.trans r_d ?_); rfl) | (with_reducible exact r_x) | (with_reducible exact r_n) | (with_reducible exact r_c) | ((with_reducible apply t_k); rfl; (first | (focus (simp; done)) | omega)) | (with_reducible refine gk_L ?_) | ((with_reducible apply gk_t); rfl) | ((with_reducible apply m_appL); (first | (focus (simp; done)) | omega)) | ((with_reducible apply m_extL); (first | (focus (simp; done)) | omega)) | ((with_reducible apply pick_fn); rfl) | ((with_reducible apply st_d); rfl; rfl) | (with_reducible refine pk_i ?_) | ((with_reducible apply c_d); (first | (focus (simp; done)) | omega)) | ((with_reducible apply h_some); rfl) | ((with_reducible apply g_d); rfl))
local macro_rules | `(tactic| wtm_at "mp2") => `(tactic| first | ((with_reducible refine g_el ?_); (first | ((with_reducible refine g_bin ?_); (first | (with_reducible refine p_add ?_) | (with_reducible refine p_sub ?_) | ((with_reducible apply p_mul); first | (exact mul_l (by omega) (by omega)) | (exact mul_r (by omega) (by omega))) | (with_reducible refine p_div (by omega) (div_s (by omega) (by omega)) ?_) | (with_reducible refine p_mod (by omega) ?_))) | ((with_reducible refine g_cmp ?_); (first | (with_reducible refine p_lt ?_) | (with_reducible refine p_le ?_) | (with_reducible refine p_gt ?_) | (with_reducible refine p_ge ?_) | (with_reducible refine p_eqI ?_) | (with_reducible refine p_neI ?_) | (with_reducible refine p_isN ?_) | (with_reducible refine p_notN ?_) | (with_reducible refine p_isB ?_) | (with_reducible refine p_notB ?_) | ((with_reducible apply p_eq); (first | rfl | (exact ok_str (by decide +kernel)) | (decide +kernel)); (first | rfl | (exact ok_str (by decide +kernel)) | (decide +kernel))) | ((with_reducible apply p_ne); (first | rfl | (exact ok_str (by decide +kernel)) | (decide +kernel)); (first | rfl | (exact ok_str (by decide +kernel)) | (decide +kernel))))) | (with_reducible refine p_neg ?_) | (with_reducible refine p_int ?_) | (with_reducible refine p_abs ?_) | (with_reducible refine p_max ?_) | (with_reducible refine p_min ?_) | (with_reducible refine p_max2 ?_) | (with_reducible refine p_min2 ?_) | (with_reducible refine p_lenT ?_) | (with_reducible refine p_lenL ?_) | (with_reducible refine p_revT ?_) | (with_reducible refine p_iadd ?_) | (with_reducible refine cut_S ?_) | (with_reducible refine cut_L ?_) | (with_reducible refine cut_F ?_) | (with_reducible refine cut_T ?_) | ((with_reducible apply p_isiT); rfl; decide +kernel) | ((with_reducible apply p_isiF); rfl; decide +kernel) | ((with_reducible apply p_all); rfl) | ((with_reducible apply p_any); rfl) | ((with_reducible apply p_idx); rfl) | ((with_reducible apply c_cons); rfl; rfl) | ((with_reducible apply c_nil); rfl) | ((with_reducible apply e_guard); rfl))) | ((with_reducible refine g_cond ?_); (first | (with_reducible refine e_condT ?_) | (with_reducible refine e_condF ?_) | ((with_reducible apply e_condTe); (first | rfl | (decide +kernel))) | ((with_reducible apply e_condFe); (first | rfl | (decide +kernel))) | ((with_reducible apply e_condPT); omega) | ((with_reducible apply e_condPF); omega) | ((with_reducible apply e_condNT); omega) | ((with_reducible apply e_condNF); omega) | (with_reducible refine e_condP (fun _ => ?_) (fun _ => ?_)) | (with_reducible refine e_condN (fun _ => ?_) (fun _ => ?_)))) | ((with_reducible refine g_opt ?_); (first | (with_reducible refine o_bl ?_) | (with_reducible refine o_int ?_) | (with_reducible refine o_b ?_) | (with_reducible refine o_lt ?_) | (with_reducible refine o_le ?_) | (with_reducible refine o_itF ?_) | (with_reducible refine o_itL ?_) | (with_reducible refine o_itT ?_) | ((with_reducible apply o_rngN); (first | (focus (simp; done)) | omega)) | (with_reducible refine o_rngI (by omega) (by omega) ?_) | (with_reducible refine o_rng2 (by omega) (by omega) ?_) | ((with_reducible apply o_eq); rfl))) | (with_reducible exact r_d) | ((with_reducible refine Eq.trans r_d ?_); rfl) | (with_reducible exact r_x) | (with_reducible exact r_n) | (with_reducible exact r_c) | ((with_reducible apply t_k); rfl; (first | (focus (simp; done)) | omega)) | (with_reducible refine gk_L ?_) | ((with_reducible apply gk_t); rfl) | ((with_reducible apply m_appL); (first | (focus (simp; done)) | omega)) | ((with_reducible apply m_extL); (first | (focus (simp; done)) | omega)) | ((with_reducible apply pick_fn); rfl) | ((with_reducible apply st_d); rfl; rfl) | (with_reducible refine pk_i ?_) | ((with_reducible apply c_d); (first | (focus (simp; done)) | omega)) | ((with_reducible apply h_some); rfl) | ((with_reducible apply g_d); rfl))
local macro_rules | `(tactic| wtm_at "mp3") => `(tactic| first | ((with_reducible refine g_el ?_); (first | ((with_reducible refine g_bin ?_); (first | (with_reducible refine p_add ?_) | (with_reducible refine p_sub ?_) | ((with_reducible apply p_mul); first | (exact mul_l (by omega) (by omega)) | (exact mul_r (by omega) (by omega))) | (with_reducible refine p_div (by omega) (div_s (by omega) (by omega)) ?_) | (with_reducible refine p_mod (by omega) ?_))) | ((with_reducible refine g_cmp ?_); (first | (with_reducible refine p_lt ?_) | (with_reducible refine p_le ?_) | (with_reducible refine p_gt ?_) | (with_reducible refine p_ge ?_) | (with_reducible refine p_eqI ?_) | (with_reducible refine p_neI ?_) | (with_reducible refine p_isN ?_) | (with_reducible refine p_notN ?_) | (with_reducible refine p_isB ?_) | (with_reducible refine p_notB ?_) | ((with_reducible apply p_eq); (first | rfl | (exact ok_str (by decide +kernel)) | (decide +kernel)); (first | rfl | (exact ok_str (by decide +kernel)) | (decide +kernel))) | ((with_reducible apply p_ne); (first | rfl | (exact ok_str (by decide +kernel)) | (decide +kernel)); (first | rfl | (exact ok_str (by decide +kernel)) | (decide +kernel))))) | (with_reducible refine p_neg ?_) | (with_reducible refine p_int ?_) | (with_reducible refine p_abs ?_) | (with_reducible refine p_max ?_) | (with_reducible refine p_min ?_) | (with_reducible refine p_max2 ?_) | (with_reducible refine p_min2 ?_) | (with_reducible refine p_lenT ?_) | (with_reducible refine p_lenL ?_) | (with_reducible refine p_revT ?_) | (with_reducible refine p_iadd ?_) | (with_reducible refine cut_S ?_) | (with_reducible refine cut_L ?_) | (with_reducible refine cut_F ?_) | (with_reducible refine cut_T ?_) | ((with_reducible apply p_isiT); rfl; decide +kernel) | ((with_reducible apply p_isiF); rfl; decide +kernel) | ((with_reducible apply p_all); rfl) | ((with_reducible apply p_any); rfl) | ((with_reducible apply p_idx); rfl) | ((with_reducible apply c_cons); rfl; rfl) | ((with_reducible apply c_nil); rfl) | ((with_reducible apply e_guard); rfl) | ((with_reducible apply f_cons); rfl; rfl) | ((with_reducible apply f_nil); rfl))) | ((with_reducible refine g_cond ?_); (first | (with_reducible refine e_condT ?_) | (with_reducible refine e_condF ?_) | ((with_reducible apply e_condTe); (first | rfl | (decide +kernel))) | ((with_reducible apply e_condFe); (first | rfl | (decide +kernel))) | ((with_reducible apply e_condPT); omega) | ((with_reducible apply e_condPF); omega) | ((with_reducible apply e_condNT); omega) | ((with_reducible apply e_condNF); omega))) | ((with_reducible refine g_opt ?_); (first | (with_reducible refine o_bl ?_) | (with_reducible refine o_int ?_) | (with_reducible refine o_b ?_) | (with_reducible refine o_lt ?_) | (with_reducible refine o_le ?_) | (with_reducible refine o_itF ?_) | (with_reducible refine o_itL ?_) | (with_reducible refine o_itT ?_) | ((with_reducible apply o_rngN); (first | (focus (simp; done)) | omega)) | (with_reducible refine o_rngI (by omega) (by omega) ?_) | (with_reducible refine o_rng2 (by omega) (by omega) ?_) | ((with_reducible apply o_eq); rfl))) | (with_reducible exact r_d) | ((with_reducible refine Eq.trans r_d ?_); rfl) | (with_reducible exact r_x) | (with_reducible exact r_n) | (with_reducible exact r_c) | ((with_reducible apply t_k); rfl; (first | (focus (simp; done)) | omega)) | (with_reducible refine gk_L ?_) | ((with_reducible apply gk_t); rfl) | ((with_reducible apply m_appL); (first | (focus (simp; done)) | omega)) | ((with_reducible apply m_extL); (first | (focus (simp; done)) | omega)) | ((with_reducible apply pick_fn); rfl) | ((with_reducible apply st_d); rfl; rfl) | (with_reducible refine pk_i ?_) | ((with_reducible apply c_d); (first | (focus (simp; done)) | omega)) | ((with_reducible apply h_some); rfl) | ((with_reducible apply g_d); rfl) | (with_reducible refine fk_n ?_) | (with_reducible refine fk_r ?_) | (with_reducible refine fk_c ?_) | (with_reducible refine fk_b ?_))

theorem rngL_get {lo : Int} {n i : Nat} {d : D} (h : (rngL lo n)[i]? = some d) : i < n ∧ d = .int (lo + i) := by
  unfold rngL at h
  rw [List.getElem?_map] at h
  by_cases hi : i < n
  · rw [List.getElem?_range hi] at h
    cases h
    exact ⟨hi, rfl⟩
  · rw [List.getElem?_eq_none (by rw [List.length_range]; omega)] at h
    cases h
theorem rngL_mem {lo : Int} {n : Nat} {d : D} (h : d ∈ rngL lo n) : ∃ k : Nat, k < n ∧ d = .int (lo + k) := by
  obtain ⟨i, hi⟩ := List.getElem?_of_mem h
  obtain ⟨h1, h2⟩ := rngL_get hi
  exact ⟨i, h1, h2⟩
theorem idx_li {c : List Int} {i : Int} {M : Mem} (h0 : 0 ≤ i) (h : i < c.length) : idx (.d (.lst (c.map .int))) (.d (.int i)) M = .ok (.d (.int (c.getD i.toNat 0))) M :=
  idx_lst (atI_int h0 (by rw [List.getElem?_map, List.getD_eq_getElem?_getD, List.getElem?_eq_getElem (by omega)]; rfl))
theorem idx_tiI {c : List Int} {i : Int} {M : Mem} (h0 : 0 ≤ i) (h : i < c.length) : idx (.d (ti c)) (.d (.int i)) M = .ok (.d (.int (c.getD i.toNat 0))) M :=
  idx_tup (atI_int h0 (by rw [List.getElem?_map, List.getD_eq_getElem?_getD, List.getElem?_eq_getElem (by omega)]; rfl))
theorem sum_ints {ns : List Int} {M : Mem} : sumOp [.d (.lst (ns.map .int))] M = .ok (.d (.int ns.sum)) M := by
  unfold sumOp
  show (match (lstOf M (.d (.lst (ns.map .int)))).bind ints? with
    | some ns => Out.ok (AV.d (.int ns.sum)) M
    | none => .bad) = _
  have e : (lstOf M (.d (.lst (ns.map .int)))).bind ints? = some ns := ints_map ns
  rw [e]
theorem isint {a : Int} {M : Mem} : Fis_integer [.d (.int a)] M = .ok (.d (.bl true)) M := by
  unfold Fis_integer
  refine e_fn rfl ?_
  unfold Tis_integer
  repeat' (first | (wtm_at "mpA") | (wtm_at "mp2"))
theorem flats_ti : ∀ c : List Int, D.flats (c.map .int) = true
  | [] => rfl
  | _ :: r => by show (true && D.flats (r.map .int)) = true; rw [flats_ti r]; rfl
theorem canLay_ti : ∀ c : List Int, PyData.canLayAll0 (D.pys (c.map .int)) = true
  | [] => rfl
  | _ :: r => by show (true && PyData.canLayAll0 (D.pys (r.map .int))) = true; rw [canLay_ti r]; rfl
theorem depth_ti : ∀ c : List Int, PyData.depthAll (D.pys (c.map .int)) = 0
  | [] => rfl
  | _ :: r => by show max 0 (PyData.depthAll (D.pys (r.map .int))) = 0; rw [depth_ti r]; rfl
theorem ok_ti (c : List Int) : (ti c).ok = true := by
  show (D.flats (c.map .int) && (PyData.canLayAll0 (D.pys (c.map .int)) && decide (PyData.depthAll (D.pys (c.map .int)) + 1 ≤ 64))) = true
  rw [flats_ti, canLay_ti, depth_ti]
  rfl
theorem eqvAll_ti : ∀ c d : List Int, PyData.eqvAll (D.pys (c.map .int)) (D.pys (d.map .int)) = decide (c = d)
  | [], [] => by simp [D.pys, PyData.eqvAll]
  | [], _ :: _ => by simp [D.pys, PyData.eqvAll]
  | _ :: _, [] => by simp [D.pys, PyData.eqvAll]
  | a :: r, b :: q => by
    show (PyData.eqv (.int a) (.int b) && PyData.eqvAll (D.pys (r.map .int)) (D.pys (q.map .int))) = _
    rw [eqvAll_ti r q, eqv_int]
    by_cases h1 : a = b <;> by_cases h2 : r = q <;> simp [h1, h2]
theorem eqv_ti (c d : List Int) : D.eqv (ti c) (ti d) = decide (c = d) := eqvAll_ti c d
theorem all_bls {bs : List Bool} {M : Mem} : allOp [.d (.lst (bs.map .bl))] M = .ok (.d (.bl (bs.all id))) M := by
  show (match (lstOf M (.d (.lst (bs.map .bl)))).bind bools? with
    | some bs => Out.ok (AV.d (.bl (bs.all id))) M
    | none => .bad) = _
  have e : (lstOf M (.d (.lst (bs.map .bl)))).bind bools? = some bs := bools_map bs
  rw [e]
theorem zipL_ints : ∀ xs ys : List Int, zipL (xs.map .int) (ys.map .int) = (List.zip xs ys).map fun p => D.tup [.int p.1, .int p.2]
  | [], ys => by cases ys <;> rfl
  | _ :: _, [] => rfl
  | x :: xs, y :: ys => by
    show D.tup [.int x, .int y] :: zipL (xs.map .int) (ys.map .int) = _
    rw [zipL_ints xs ys]
    rfl
theorem idx_last {x : Int} {r : List Int} {M : Mem} : idx (.d (ti (x :: r))) (.d (.int (-1))) M = .ok (.d (.int (lastI (x :: r)))) M := idx_tup (atI_last (by simp))
theorem foldl_rng {S : Type} (f : S → D → S) (lo : Int) : ∀ (l : List Nat) (s : S), (l.map fun k : Nat => D.int (lo + k)).foldl f s = l.foldl (fun s (k : Nat) => f s (.int (lo + k))) s
  | [], s => rfl
  | k :: l, s => foldl_rng f lo l _
theorem idx_lastC {α : Type} {f : α → D} {s : List α} {t : α} {M : Mem} : idx (.cell M.length) (.d (.int (-1))) (M ++ [some (.l ((s ++ [t]).map f))]) = .ok (.d (f t)) (M ++ [some (.l ((s ++ [t]).map f))]) :=
  idx_cell last_get (by rw [List.map_append]; exact atI_neg1)
theorem tup_cell {xs : List D} {M : Mem} : tupleOp [.cell M.length] (M ++ [some (.l xs)]) = .ok (.d (.tup xs)) (M ++ [some (.l xs)]) := by
  have e : lstOf (M ++ [some (.l xs)]) (.cell M.length) = some xs := by
    show (match (M ++ [some (MC.l xs)])[M.length]? with | some (some (.l xs)) => some xs | _ => none) = _
    rw [last_get]
  unfold tupleOp
  simp only [e]
theorem r_dL {v : D} {M X : Mem} : endK M.length (.ret (.d v)) (M ++ X) = .ok (.d v) M := by
  show Out.ok (AV.d v) ((M ++ X).take M.length) = _
  rw [List.take_left]
theorem tup_fr {xs : List D} {M : Mem} : tupleOp [.fr xs] M = .ok (.d (.tup xs)) M := rfl
theorem tup_lst {xs : List D} {M : Mem} : tupleOp [.d (.lst xs)] M = .ok (.d (.tup xs)) M := rfl
abbrev tis (cs : List (List Int)) : D := .tup (cs.map ti)
theorem flats_tis : ∀ c : List (List Int), D.flats (c.map ti) = true
  | [] => rfl
  | a :: r => by
    show (D.flats (a.map .int) && D.flats (r.map ti)) = true
    rw [flats_tis r, flats_ti a]
    rfl
theorem canLay_tis : ∀ c : List (List Int), PyData.canLayAll0 (D.pys (c.map ti)) = true
  | [] => rfl
  | a :: r => by
    show (PyData.canLayAll0 (D.pys (a.map .int)) && PyData.canLayAll0 (D.pys (r.map ti))) = true
    rw [canLay_tis r, canLay_ti a]
    rfl
theorem depth_tis : ∀ c : List (List Int), PyData.depthAll (D.pys (c.map ti)) ≤ 1
  | [] => by decide
  | a :: r => by
    show max (PyData.depthAll (D.pys (a.map .int)) + 1) (PyData.depthAll (D.pys (r.map ti))) ≤ 1
    have := depth_tis r
    rw [depth_ti a]
    omega
theorem ok_tis (c : List (List Int)) : (tis c).ok = true := by
  show (D.flats (c.map ti) && (PyData.canLayAll0 (D.pys (c.map ti)) && decide (PyData.depthAll (D.pys (c.map ti)) + 1 ≤ 64))) = true
  have := depth_tis c
  rw [flats_tis, canLay_tis, decide_eq_true (by omega)]
  rfl
abbrev St (a b : Int) (Mt : Mem) : Mem := some (.l [.int a, .int b]) :: Mt
theorem r_dT {v : D} {x y : Option MC} {Mt : Mem} : endK (x :: Mt).length (.ret (.d v)) (y :: Mt) = .ok (.d v) (y :: Mt) := by
  show Out.ok (AV.d v) ((y :: Mt).take (x :: Mt).length) = _
  rw [List.take_of_length_le (by simp)]
theorem take_ok {m a b : Int} {Mt : Mem} (hm : 1 ≤ m ∧ m ≤ 1000000) : ∃ r a' b', F_law_take [.cell 0, .d (.int m)] (St a b Mt) = .ok (.d (.int r)) (St a' b' Mt) ∧ 0 ≤ r ∧ r < m := by
  by_cases h : 0 < a
  · refine ⟨a % m, a / m, b, ?_, Int.emod_nonneg a (b := m) (by omega), Int.emod_lt_of_pos a (by omega)⟩
    unfold F_law_take
    refine e_fn rfl ?_
    unfold T_law_take
    repeat' (first | (wtm_at "mpA") | (wtm_at "mp2"))
    exact r_dT
  · refine ⟨_, a, (b * 48271 + 11) % 2147483647, ?_, Int.emod_nonneg (((b * 48271 + 11) % 2147483647) / 7) (b := m) (by omega), Int.emod_lt_of_pos _ (by omega)⟩
    unfold F_law_take
    refine e_fn rfl ?_
    unfold T_law_take
    repeat' (first | (wtm_at "mpA") | (wtm_at "mp2"))
    exact r_dT
theorem mapp {β : Type} {res : Out β} {k : AV → Mem → Out β} {a b : Int} {Mt : Mem} {xs : List D} {x : D} (hl : xs.length < 1000000) (h : k (.d .non) (St a b (Mt ++ [some (.l (xs ++ [x]))])) = res) : mK mAppend (.cell (Mt.length + 1)) [.d x] (St a b (Mt ++ [some (.l xs)])) k = res :=
  m_appL (M := St a b Mt) hl h
theorem gkc {a b : Int} {Mt : Mem} {xs : List D} : (cellOf? (St a b (Mt ++ [some (.l xs)])) (.cell (Mt.length + 1))).isSome = true := by
  simp [cellOf?]
theorem len_c {a b : Int} {Mt : Mem} {xs : List D} : lenOp [.cell (Mt.length + 1)] (St a b (Mt ++ [some (.l xs)])) = .ok (.d (.int xs.length)) (St a b (Mt ++ [some (.l xs)])) := by
  unfold lenOp
  simp [lstOf]
theorem tup_cS {a b : Int} {Mt : Mem} {xs : List D} : tupleOp [.cell (Mt.length + 1)] (St a b (Mt ++ [some (.l xs)])) = .ok (.d (.tup xs)) (St a b (Mt ++ [some (.l xs)])) := tup_cell (M := St a b Mt)
theorem r_dS {v : D} {a b a' b' : Int} {Mt X : Mem} : endK (St a b Mt).length (.ret (.d v)) (St a' b' (Mt ++ X)) = .ok (.d v) (St a' b' Mt) := r_dL (M := St a' b' Mt)
theorem cutG_init {α : Type} {xs : List α} : cutG xs none (some (-1)) = xs.dropLast := by
  unfold cutG
  have e0 : HT.sIx xs.length 0 none = 0 := rfl
  have e : HT.sIx xs.length xs.length (some (-1)) = xs.length - 1 := by
    show (if (-1 : Int) < 0 then ((-1 : Int) + (xs.length : Int)).toNat else min (-1 : Int).toNat xs.length) = xs.length - 1
    rw [if_pos (by decide)]
    omega
  rw [e0, e, List.drop_zero, Nat.sub_zero, List.dropLast_eq_take]
theorem while_ex {c : SB} {body : SS} {env : Env} {M : Mem} (I P : Env → Mem → Prop) (μ : Env → Mem → Nat) (h0 : I env M)
    (step : ∀ env M, I env M → (c env M = .ok false M ∧ P env M) ∨ (c env M = .ok true M ∧ ∃ env' M', body env M = .ok (.next env') M' ∧ I env' M' ∧ μ env' M' < μ env M)) (hμ : μ env M < 2 ^ 200) :
    ∃ env' M', sWhile c body env M = .ok (.next env') M' ∧ P env' M' := by
  unfold sWhile
  exact while_n μ step bigF env M h0 (Nat.lt_of_lt_of_le hμ big_le)
theorem e_next {β : Type} {kx : Exc → Mem → Out β} {res : Out β} {k : Fl → Mem → Out β} {s : SS} {env env' : Env} {M M' : Mem} (e : s env M = .ok (.next env') M') (h : k (.next env') M' = res) : el (s env M) k kx = res := by rw [e]; exact h
theorem div_i {j : Int} (h0 : 0 ≤ j) (h : j ≤ 1000000) : divOk j = true := div_s (by omega) (by omega)
theorem r_f {M : Mem} {xs : List D} : endK M.length (.ret (.fr xs)) M = .ok (.fr xs) M := by
  show Out.ok (AV.fr xs) (M.take M.length) = _
  rw [List.take_length]
theorem p_cut {β : Type} {kx : Exc → Mem → Out β} {res : Out β} {k : AV → Mem → Out β} {x v : AV} {i j : Option Int} {M M2 : Mem} (e : cutop x i j M = .ok v M2) (h : k v M2 = res) : el (cutop x i j M) k kx = res := by rw [e]; exact h
theorem any_bls {bs : List Bool} {M : Mem} : anyOp [.d (.lst (bs.map .bl))] M = .ok (.d (.bl (bs.any id))) M := by
  show (match (lstOf M (.d (.lst (bs.map .bl)))).bind bools? with
    | some bs => Out.ok (AV.d (.bl (bs.any id))) M
    | none => .bad) = _
  have e : (lstOf M (.d (.lst (bs.map .bl)))).bind bools? = some bs := bools_map bs
  rw [e]
theorem add_ff {M : Mem} {xs ys : List D} (h : xs.length + ys.length ≤ 1000000) : binop .Add (opnd M (.fr xs)) (opnd M (.fr ys)) M = .ok (.fr (xs ++ ys)) M := add_lf h
theorem cutG_nn {α : Type} (xs : List α) (i j : Nat) (h : i ≤ j) : cutG xs (some (i : Int)) (some (j : Int)) = (xs.drop i).take (j - i) := by
  unfold cutG
  rw [HT.sIx_nat, HT.sIx_nat]
  by_cases h1 : i ≤ xs.length
  · rw [Nat.min_eq_left h1]
    by_cases h2 : j ≤ xs.length
    · rw [Nat.min_eq_left h2]
    · rw [Nat.min_eq_right (by omega), List.take_of_length_le (by rw [List.length_drop]; omega), List.take_of_length_le (by rw [List.length_drop]; omega)]
  · rw [Nat.min_eq_right (show xs.length ≤ i by omega), List.drop_of_length_le (Nat.le_refl _), List.drop_of_length_le (show xs.length ≤ i by omega)]
    simp
theorem cutG_n0 {α : Type} (xs : List α) (i : Nat) : cutG xs (some (i : Int)) none = xs.drop i := by
  unfold cutG
  rw [HT.sIx_nat, HT.sIx_none]
  by_cases h1 : i ≤ xs.length
  · rw [Nat.min_eq_left h1, List.take_of_length_le (by rw [List.length_drop]; omega)]
  · rw [Nat.min_eq_right (show xs.length ≤ i by omega), List.drop_of_length_le (Nat.le_refl _), List.drop_of_length_le (show xs.length ≤ i by omega)]
    simp
/-! rows with ones behind them -/
theorem e_condE {β : Type} {res r r' : Out β} {b c : Bool} (e : b = c) (h : cond c r r' = res) : cond b r r' = res := by rw [e]; exact h

theorem sameL {ds : List D} {n : Nat} {M : Mem} (hl : ds.length ≤ 90000) (h : ∀ d ∈ ds, ∀ M, F_law_same n [.d d, .d d] M = .ok (.d (.bl true)) M) : F_law_same (n + 1) [.d (.tup ds), .d (.tup ds)] M = .ok (.d (.bl true)) M := by
  have hl2 : ds.length ≤ 1000000 := by omega
  rw [F_law_same]
  refine e_fn rfl ?_
  unfold T_law_same
  repeat' (first | (wtm_at "mpA") | (wtm_at "mp0"))
  refine e_compE (fun _ => .bl true) (fun _ => true) (fun d hd => ?_) (by unfold rngL; simpa using hl2) ?_
  · obtain ⟨k, hk, rfl⟩ := rngL_mem hd
    have i1 : ∀ M, idx (.d (.tup ds)) (.d (.int (0 + k))) M = .ok (.d ds[k]) M := fun M => idx_tup (atI_int (by omega) (by rw [show ((0 : Int) + k).toNat = k by omega]; exact List.getElem?_eq_getElem hk))
    refine ⟨_, rfl, rfl, fun _ => ⟨.d (.bl true), el_start ?_, rfl⟩⟩
    repeat' (first | (wtm_at "mpA") | (with_reducible apply p_idx (i1 _)) | (with_reducible apply e_call (h _ (List.getElem_mem hk) _)) | (wtm_at "mp0"))
    rfl
  · have e : ((rngL 0 ds.length).filter fun _ => true).map (fun _ => D.bl true) = ((List.range ds.length).map fun _ => true).map D.bl := by
      rw [List.filter_eq_self.mpr (fun _ _ => rfl)]
      unfold rngL
      rw [List.map_map, List.map_map]
      rfl
    dsimp only
    rw [e]
    repeat' (first | (wtm_at "mpA") | (with_reducible apply e_call all_bls) | (wtm_at "mp1"))
    refine r_d.trans ?_
    simp
theorem sameN {n : Nat} {M : Mem} : F_law_same (n + 1) [.d .non, .d .non] M = .ok (.d (.bl true)) M := by
  rw [F_law_same]
  refine e_fn rfl ?_
  unfold T_law_same
  repeat' (first | (wtm_at "mpA") | (wtm_at "mp1"))
theorem same_two {a b : D} {n : Nat} {M : Mem} (h1 : ∀ M, F_law_same (n + 1) [.d a, .d a] M = .ok (.d (.bl true)) M) (h2 : ∀ M, F_law_same (n + 1) [.d b, .d b] M = .ok (.d (.bl true)) M) : F_law_same (n + 2) [.d (.tup [a, b]), .d (.tup [a, b])] M = .ok (.d (.bl true)) M := by
  refine sameL (by simp) fun d hd M => ?_
  rcases List.mem_cons.mp hd with rfl | hd
  · exact h1 M
  · rw [List.mem_singleton.mp hd]; exact h2 M
theorem augI_eq {op : Operator} {fo fi fe : SE} {env : Env} {M : Mem} {c : Nat} {i x y z : Int} {xs : List D} (h1 : fo env M = .ok (.cell c) M) (h2 : fi env M = .ok (.d (.int i)) M) (h3 : fe env M = .ok (.d (.int y)) M)
    (h4 : M[c]? = some (some (.l xs))) (hi : 0 ≤ i ∧ i < xs.length) (h5 : xs[i.toNat]? = some (.int x)) (h6 : inop op (.d (.int x)) (.d (.int y)) M = .ok (.d (.int z)) M) :
    sAugI op fo fi fe env M = .ok (.next env) (M.set c (some (.l (xs.set i.toNat (.int z))))) := by
  have e1 : lstOf M (.cell c) = some xs := by unfold lstOf; dsimp only; rw [h4]
  have e2 : L2.atI xs i = some (.int x) := atI_int hi.1 h5
  have e3 : cellOf? M (.cell c) = some (c, xs) := by unfold cellOf?; dsimp only; rw [h4]
  have e4 : L2.ixN xs.length i = some i.toNat := by unfold L2.ixN; rw [if_pos hi.1, if_pos hi.2]
  unfold sAugI
  rw [h1, Out.bind_ok, h2, Out.bind_ok]
  simp only [e1, e2, h3, Out.bind_ok, h6, e3, e4]
theorem setI_eq {fo fi fv : SE} {env : Env} {M : Mem} {c : Nat} {i : Int} {z : D} {xs : List D} (h1 : fo env M = .ok (.cell c) M) (h2 : fi env M = .ok (.d (.int i)) M) (h3 : fv env M = .ok (.d z) M)
    (h4 : M[c]? = some (some (.l xs))) (hi : 0 ≤ i ∧ i < xs.length) : sSetI fo fi fv env M = .ok (.next env) (M.set c (some (.l (xs.set i.toNat z)))) := by
  have e3 : cellOf? M (.cell c) = some (c, xs) := by unfold cellOf?; dsimp only; rw [h4]
  have e4 : L2.ixN xs.length i = some i.toNat := by unfold L2.ixN; rw [if_pos hi.1, if_pos hi.2]
  unfold sSetI
  rw [h3, Out.bind_ok, h1, Out.bind_ok, h2, Out.bind_ok]
  show (match keepD (.d z) M, AV.d (.int i) with
    | some (d, M4), .d (.int k) => match cellOf? M4 (.cell c) with
      | some (c, xs) => match L2.ixN xs.length k with
        | some j => Out.ok (Fl.next env) (M4.set c (some (.l (xs.set j d))))
        | none => .bad
      | none => .bad
    | _, _ => .bad) = _
  simp only [keepD, e3, e4]

/-! ## rows over points, in plain terms -/
def gI (row : List Int) (q : Int) : Int := row.getD q.toNat 0
def ownP (P : List (List Int)) (p : Nat) : List Int := P.getD p []
/-- each item names points before it -/
def VP (P : List (List Int)) : Prop := ∀ p, ∀ q ∈ ownP P p, 0 ≤ q ∧ q < p
def valF (P : List (List Int)) (row : List Int) (s : List Int) (p : Nat) : List Int := s ++ [row.getD p 0 + ((ownP P p).map (gI s)).sum]
def valL (P : List (List Int)) (row : List Int) : List Int := (List.range row.length).foldl (valF P row) []
def mulL (P : List (List Int)) (v : List Int) : List Int := (List.range v.length).map fun p => v.getD p 0 - ((ownP P p).map (gI v)).sum
def subF (m : Int) (s : List Int) (p : Int) : List Int := s.set p.toNat (s.getD p.toNat 0 - m)
def exF (P : List (List Int)) (row : List Int) (s : List Int) (q : Nat) : List Int := (ownP P q).foldl (subF (row.getD q 0)) s
def exL (P : List (List Int)) (row : List Int) : List Int := (List.range row.length).foldl (exF P row) row
theorem valF_len (P : List (List Int)) (row : List Int) : ∀ (n : Nat), ((List.range n).foldl (valF P row) []).length = n
  | 0 => rfl
  | n + 1 => by
    rw [List.range_succ, List.foldl_append]
    show (valF P row ((List.range n).foldl (valF P row) []) n).length = n + 1
    unfold valF
    rw [List.length_append, List.length_singleton]
    have := valF_len P row n
    unfold valF at this
    omega
theorem idx_pt {P : List (List Int)} {p : Nat} (h : p < P.length) (M : Mem) : idx (.d (tis P)) (.d (.int (p : Int))) M = .ok (.d (ti (ownP P p))) M := by
  refine idx_tup (atI_nat ?_)
  unfold ownP
  rw [List.getElem?_map, List.getD_eq_getElem?_getD, List.getElem?_eq_getElem h]
  rfl
/-- a row of ints that is told: a tuple or a list -/
def RowI (R : D) (row : List Int) : Prop := (∀ (k : Nat) (M : Mem), k < row.length → idx (.d R) (.d (.int k)) M = .ok (.d (.int (row.getD k 0))) M) ∧ ∀ M, listOp [.d R] M = .ok (.fr (row.map .int)) M
theorem row_t (row : List Int) : RowI (ti row) row := ⟨fun k M h => by rw [idx_tiI (by omega) (by omega)]; rfl, fun M => rfl⟩
theorem row_l (row : List Int) : RowI (.lst (row.map .int)) row := ⟨fun k M h => by
  refine idx_lst (atI_nat ?_)
  rw [List.getElem?_map, List.getElem?_eq_getElem h, List.getD_eq_getElem?_getD, List.getElem?_eq_getElem h]
  rfl, fun M => rfl⟩

theorem cell_lt {M : Mem} {c : Nat} {x : Option MC} (h : M[c]? = some x) : c < M.length := by
  rcases Nat.lt_or_ge c M.length with g | g
  · exact g
  · rw [List.getElem?_eq_none g] at h; cases h
theorem lst_cell {M : Mem} {c : Nat} {xs : List D} (h : M[c]? = some (some (.l xs))) : lstOf M (.cell c) = some xs := by
  unfold lstOf
  simp only [h]
theorem en_cell {β : Type} {M : Mem} {c : Nat} {xs : List D} {k : Itm → Out β} {res : Out β} (h : lstOf M (.cell c) = some xs) (q : k ⟨enumL 0 xs, [(c, xs)]⟩ = res) : optK (enumItm2 M [.cell c]) k = res := by
  rw [← q]
  unfold enumItm2
  simp only [h]
  rfl
theorem lst_l {xs : List D} {M : Mem} : listOp [.d (.lst xs)] M = .ok (.fr xs) M := rfl
theorem dep1 {M : Mem} {c : Nat} {xs : List D} (h : M[c]? = some (some (.l xs))) : depsOk M [(c, xs)] = true := by
  unfold depsOk
  simp [h]
theorem for_foldID {S : Type} {body : SS} {tg : Tg} {deps : List (Nat × List D)} {I : Nat → S → Env → Mem → Prop} (hI : ∀ i s env M, I i s env M → depsOk M deps = true) (f : S → D → S) : ∀ (items : List D) (n : Nat) (step : ∀ i d, items[i]? = some d → ∀ s env M, I (n + i) s env M → ∃ e env' M', tg.bind d env = some e ∧ body e M = .ok (.next env') M' ∧ I (n + i + 1) (f s d) env' M') (s : S) (env : Env) (M : Mem), I n s env M →
    ∃ env' M', forL body tg deps items env M = .ok (.next env') M' ∧ I (n + items.length) (items.foldl f s) env' M'
  | [], n, _, s, env, M, h => ⟨env, M, by rw [forL, if_pos (hI _ _ _ _ h)], h⟩
  | d :: r, n, step, s, env, M, h => by
    obtain ⟨e, env1, M1, e1, e2, h1⟩ := step 0 d rfl s env M h
    obtain ⟨env', M', e3, h3⟩ := for_foldID hI f r (n + 1) (fun i d hd s env M h => by
      have := step (i + 1) d (by simpa using hd) s env M (by rw [show n + (i + 1) = n + 1 + i by omega]; exact h)
      rw [show n + (i + 1) + 1 = n + 1 + i + 1 by omega] at this
      exact this) (f s d) env1 M1 h1
    refine ⟨env', M', ?_, ?_⟩
    · rw [forL, if_pos (hI _ _ _ _ h)]
      simp only [e1, e2]
      exact e3
    · rw [List.length_cons, show n + (r.length + 1) = n + 1 + r.length by omega]
      exact h3
theorem e_foldID {β S : Type} {kx : Exc → Mem → Out β} {res : Out β} {k : Fl → Mem → Out β} {body : SS} {tg : Tg} {items : List D} {deps : List (Nat × List D)} {env : Env} {M : Mem} (I : Nat → S → Env → Mem → Prop) (f : S → D → S) (s : S) (hI : ∀ i s env M, I i s env M → depsOk M deps = true) (h0 : I 0 s env M)
    (step : ∀ i d, items[i]? = some d → ∀ s env M, I i s env M → ∃ e env' M', tg.bind d env = some e ∧ body e M = .ok (.next env') M' ∧ I (i + 1) (f s d) env' M') (h : ∀ env' M', I items.length (items.foldl f s) env' M' → k (.next env') M' = res) : el (forL body tg deps items env M) k kx = res := by
  obtain ⟨env', M', e, q⟩ := for_foldID hI f items 0 (fun i d hd s env M h => by rw [Nat.zero_add] at h ⊢; exact step i d hd s env M h) s env M h0
  rw [e]
  exact h env' M' (by rw [Nat.zero_add] at q; exact q)
theorem enum_get {α : Type} (f : α → D) : ∀ (xs : List α) (j i : Nat) (d : D), (enumL j (xs.map f))[i]? = some d → ∃ x, xs[i]? = some x ∧ d = .tup [.int ((j + i : Nat) : Int), f x]
  | [], j, i, d, h => by cases h
  | x :: xs, j, i, d, h => by
    cases i with
    | zero => cases h; exact ⟨x, rfl, rfl⟩
    | succ i =>
      obtain ⟨y, h1, h2⟩ := enum_get f xs (j + 1) i d h
      exact ⟨y, h1, by rw [h2, show j + 1 + i = j + (i + 1) by omega]⟩
def valN (P : List (List Int)) (row : List Int) (n : Nat) : List Int := (List.range n).foldl (valF P row) []
theorem valN_succ (P : List (List Int)) (row : List Int) (n : Nat) : valN P row (n + 1) = valF P row (valN P row n) n := by
  unfold valN
  rw [List.range_succ, List.foldl_append]
  rfl
theorem valN_len (P : List (List Int)) (row : List Int) (n : Nat) : (valN P row n).length = n := valF_len P row n
def exN (P : List (List Int)) (row : List Int) (n : Nat) : List Int := (List.range n).foldl (exF P row) row
theorem exN_succ (P : List (List Int)) (row : List Int) (n : Nat) : exN P row (n + 1) = exF P row (exN P row n) n := by
  unfold exN
  rw [List.range_succ, List.foldl_append]
  rfl
theorem sub_len (m : Int) : ∀ (own s : List Int), (own.foldl (subF m) s).length = s.length
  | [], s => rfl
  | p :: own, s => by
    show (own.foldl (subF m) (subF m s p)).length = s.length
    rw [sub_len m own]
    unfold subF
    rw [List.length_set]
theorem exN_len (P : List (List Int)) (row : List Int) : ∀ n, (exN P row n).length = row.length
  | 0 => rfl
  | n + 1 => by
    rw [exN_succ]
    unfold exF
    rw [sub_len, exN_len P row n]
theorem set_map {s : List Int} {i : Nat} {z : Int} : (s.map D.int).set i (.int z) = (s.set i z).map D.int := by rw [List.map_set]
/-- the inner walks: a number is taken off at each place -/
theorem subP_ok {s own : List Int} {m : Int} (h : ∀ q ∈ own, 0 ≤ q ∧ q < s.length) {M : Mem} {o0 o1 o3 o5 : Option AV} :
    ∃ p5, forL (sSeq2 (sAugI .Sub (sVar 2) (sVar 5) (sVar 4)) sSkip) (.name 5) [] (own.map D.int) [o0, o1, some (.cell M.length), o3, some (.d (.int m)), o5] (M ++ [some (.l (s.map .int))]) = .ok (.next [o0, o1, some (.cell M.length), o3, some (.d (.int m)), p5]) (M ++ [some (.l ((own.foldl (subF m) s).map .int))]) := by
  obtain ⟨env', M', e, p5, rfl, hl, rfl⟩ := for_fold (I := fun (t : List Int) env M' => ∃ p5, env = [o0, o1, some (.cell M.length), o3, some (.d (.int m)), p5] ∧ t.length = s.length ∧ M' = M ++ [some (.l (t.map .int))]) (body := (sSeq2 (sAugI .Sub (sVar 2) (sVar 5) (sVar 4)) sSkip)) (tg := .name 5) (fun t d => match d with | .int p => subF m t p | _ => t) (own.map D.int) (fun d hd t env M' h' => by
    obtain ⟨p5, rfl, hl, rfl⟩ := h'
    obtain ⟨q, hq, rfl⟩ := List.mem_map.mp hd
    have hq := h q hq
    have e : sAugI .Sub (sVar 2) (sVar 5) (sVar 4) [o0, o1, some (.cell M.length), o3, some (.d (.int m)), some (.d (.int q))] (M ++ [some (.l (t.map D.int))]) = .ok (.next [o0, o1, some (.cell M.length), o3, some (.d (.int m)), some (.d (.int q))]) ((M ++ [some (MC.l (t.map D.int))]).set M.length (some (MC.l ((t.map D.int).set q.toNat (.int (t.getD q.toNat 0 - m)))))) :=
      augI_eq (x := t.getD q.toNat 0) (xs := t.map D.int) rfl rfl rfl last_get ⟨hq.1, by rw [List.length_map]; omega⟩ (by rw [List.getElem?_map, List.getD_eq_getElem?_getD, List.getElem?_eq_getElem (by omega)]; rfl) rfl
    rw [last_set, set_map] at e
    refine ⟨_, [o0, o1, some (.cell M.length), o3, some (.d (.int m)), some (.d (.int q))], M ++ [some (.l ((subF m t q).map .int))], rfl, el_start (e_stmt e (e_skip rfl)), some (.d (.int q)), rfl, ?_, rfl⟩
    show (subF m t q).length = s.length
    unfold subF
    rw [List.length_set, hl]) s [o0, o1, some (.cell M.length), o3, some (.d (.int m)), o5] (M ++ [some (.l (s.map .int))]) ⟨o5, rfl, rfl, rfl⟩
  refine ⟨p5, ?_⟩
  rw [e, foldl_map]
theorem exl_ok {P : List (List Int)} {row : List Int} (hP : VP P) (hl : row.length ≤ P.length) {M : Mem} : Fexcess_list [.d (tis P), .d (.lst (row.map .int))] M = .ok (.fr ((exL P row).map .int)) M := by
  unfold Fexcess_list
  refine e_fn rfl ?_
  unfold Texcess_list
  repeat' (first | (wtm_at "mpA") | (with_reducible apply e_call lst_l) | (wtm_at "mp0"))
  refine e_foldI (fun i (_ : Unit) env M' => M' = M ++ [some (.l ((exN P row i).map .int))] ∧ ∃ o3 o4 o5, env = [some (.d (tis P)), some (.d (.lst (row.map .int))), some (.cell M.length), o3, o4, o5])
    (fun s _ => s) () ⟨rfl, _, _, _, rfl⟩ (fun k d hd s env M' h => ?_) (fun env M' h => ?_)
  · obtain ⟨m, hm, rfl⟩ := enum_get D.int row 0 k d hd
    obtain ⟨rfl, o3, o4, o5, rfl⟩ := h
    rw [Nat.zero_add]
    have hk : k < row.length := (List.getElem?_eq_some_iff.mp hm).1
    have em : row.getD k 0 = m := by rw [List.getD_eq_getElem?_getD, hm]; rfl
    have i2 : ∀ M, idx (.d (tis P)) (.d (.int (k : Int))) M = .ok (.d (ti (ownP P k))) M := fun M => idx_pt (by omega) M
    have hs := exN_len P row k
    have eS : exN P row (k + 1) = (ownP P k).foldl (subF m) (exN P row k) := by rw [exN_succ, ← em]; rfl
    obtain ⟨p5, e2⟩ := subP_ok (s := exN P row k) (own := ownP P k) (m := m) (fun q hq => by have := hP k q hq; omega) (M := M) (o0 := some (.d (tis P))) (o1 := some (.d (.lst (row.map .int)))) (o3 := some (.d (.int (k : Int)))) (o5 := o5)
    refine ⟨_, [some (.d (tis P)), some (.d (.lst (row.map .int))), some (.cell M.length), some (.d (.int (k : Int))), some (.d (.int m)), p5], M ++ [some (.l ((exN P row (k + 1)).map .int))], rfl, el_start ?_, rfl, _, _, _, rfl⟩
    rw [eS]
    repeat' (first | (wtm_at "mpA") | (with_reducible apply p_idx (i2 _)) | (wtm_at "mp0"))
    refine (congrArg (fun z => el z _ _) (e2 : forL _ _ _ _ _ _ = _)).trans ?_
    repeat' (first | (wtm_at "mpA") | (wtm_at "mp1"))
    rfl
  · obtain ⟨rfl, o3, o4, o5, rfl⟩ := h
    have el : (enumL 0 (row.map D.int)).length = row.length := by
      have g : ∀ (xs : List Int) (j : Nat), (enumL j (xs.map D.int)).length = xs.length := by
        intro xs
        induction xs with
        | nil => intro j; rfl
        | cons a r ih => intro j; exact congrArg (· + 1) (ih (j + 1))
      exact g row 0
    rw [el]
    repeat' (first | (wtm_at "mpA") | (wtm_at "mp1"))
    exact r_c

/-- the law's inner walk of excesses -/
def LxB : SS := (sSeq2 (sSetI (sVar 2) (sVar 4) (sBin .Sub (sIdx (sVar 2) (sVar 4)) (sIdx (sVar 1) (sVar 3)))) sSkip)
theorem get_cell {M : Mem} {t : List Int} {q : Int} (h : 0 ≤ q ∧ q < t.length) : idx (.cell M.length) (.d (.int q)) (M ++ [some (.l (t.map D.int))]) = .ok (.d (.int (t.getD q.toNat 0))) (M ++ [some (.l (t.map D.int))]) := by
  refine idx_cell last_get (atI_int h.1 ?_)
  rw [List.getElem?_map, List.getElem?_eq_getElem (by omega), List.getD_eq_getElem?_getD, List.getElem?_eq_getElem (by omega)]
  rfl
theorem lsub_ok {s own row : List Int} {k : Nat} {R : D} (hR : RowI R row) (hk : k < row.length) (h : ∀ q ∈ own, 0 ≤ q ∧ q < s.length) {M : Mem} {o0 o4 : Option AV} :
    ∃ p4, forL LxB (.name 4) [] (own.map D.int) [o0, some (.d R), some (.cell M.length), some (.d (.int (k : Int))), o4] (M ++ [some (.l (s.map .int))]) = .ok (.next [o0, some (.d R), some (.cell M.length), some (.d (.int (k : Int))), p4]) (M ++ [some (.l ((own.foldl (subF (row.getD k 0)) s).map .int))]) := by
  obtain ⟨env', M', e, p4, rfl, hl, rfl⟩ := for_fold (I := fun (t : List Int) env M' => ∃ p4, env = [o0, some (.d R), some (.cell M.length), some (.d (.int (k : Int))), p4] ∧ t.length = s.length ∧ M' = M ++ [some (.l (t.map .int))]) (body := LxB) (tg := .name 4) (fun t d => match d with | .int p => subF (row.getD k 0) t p | _ => t) (own.map D.int) (fun d hd t env M' h' => by
    obtain ⟨p4, rfl, hl, rfl⟩ := h'
    obtain ⟨q, hq, rfl⟩ := List.mem_map.mp hd
    have hq := h q hq
    have i1 := get_cell (M := M) (t := t) (q := q) (by omega)
    have i2 : ∀ M, idx (.d R) (.d (.int (k : Int))) M = .ok (.d (.int (row.getD k 0))) M := fun M => hR.1 k M hk
    have ev : (sBin .Sub (sIdx (sVar 2) (sVar 4)) (sIdx (sVar 1) (sVar 3))) [o0, some (.d R), some (.cell M.length), some (.d (.int (k : Int))), some (.d (.int q))] (M ++ [some (.l (t.map D.int))]) = .ok (.d (.int (t.getD q.toNat 0 - row.getD k 0))) (M ++ [some (.l (t.map D.int))]) := by
      refine el_start ?_
      repeat' (first | (wtm_at "mpA") | (with_reducible apply p_idx i1) | (with_reducible apply p_idx (i2 _)) | (wtm_at "mp1"))
      rfl
    have e := setI_eq (fo := sVar 2) (fi := sVar 4) (env := [o0, some (.d R), some (.cell M.length), some (.d (.int (k : Int))), some (.d (.int q))]) (c := M.length) (i := q) (xs := t.map D.int) rfl rfl ev last_get ⟨hq.1, by rw [List.length_map]; omega⟩
    rw [last_set, set_map] at e
    refine ⟨_, [o0, some (.d R), some (.cell M.length), some (.d (.int (k : Int))), some (.d (.int q))], M ++ [some (.l ((subF (row.getD k 0) t q).map .int))], rfl, el_start (e_stmt e (e_skip rfl)), some (.d (.int q)), rfl, ?_, rfl⟩
    show (subF (row.getD k 0) t q).length = s.length
    unfold subF
    rw [List.length_set, hl]) s [o0, some (.d R), some (.cell M.length), some (.d (.int (k : Int))), o4] (M ++ [some (.l (s.map .int))]) ⟨o4, rfl, rfl, rfl⟩
  refine ⟨p4, ?_⟩
  rw [e, foldl_map]
theorem lex_ok {P : List (List Int)} {row : List Int} {R : D} (hR : RowI R row) (hP : VP P) (hl : row.length = P.length) (h60 : P.length ≤ 1000) {M : Mem} : F_law_excess [.d (tis P), .d R] M = .ok (.fr ((exL P row).map .int)) M := by
  have hlr : (P.map ti).length ≤ 1000000 := by rw [List.length_map]; omega
  obtain ⟨_, hL⟩ := hR
  have hR : RowI R row := ⟨‹_›, hL⟩
  unfold F_law_excess
  refine e_fn rfl ?_
  unfold T_law_excess
  repeat' (first | (wtm_at "mpA") | (with_reducible apply e_call (hL _)) | (wtm_at "mp0"))
  rw [List.length_map, ← hl]
  refine e_foldI (fun i (_ : Unit) env M' => M' = M ++ [some (.l ((exN P row i).map .int))] ∧ ∃ o3 o4, env = [some (.d (tis P)), some (.d R), some (.cell M.length), o3, o4])
    (fun s _ => s) () ⟨rfl, _, _, rfl⟩ (fun k d hd s env M' h => ?_) (fun env M' h => ?_)
  · obtain ⟨hk, rfl⟩ := rngL_get hd
    obtain ⟨rfl, o3, o4, rfl⟩ := h
    rw [Int.zero_add]
    have i2 : ∀ M, idx (.d (tis P)) (.d (.int (k : Int))) M = .ok (.d (ti (ownP P k))) M := fun M => idx_pt (by omega) M
    have hs := exN_len P row k
    have eS : exN P row (k + 1) = (ownP P k).foldl (subF (row.getD k 0)) (exN P row k) := by rw [exN_succ]; rfl
    obtain ⟨p4, e2⟩ := lsub_ok (s := exN P row k) (own := ownP P k) (row := row) hR hk (fun q hq => by have := hP k q hq; omega) (M := M) (o0 := some (.d (tis P))) (o4 := o4)
    refine ⟨_, [some (.d (tis P)), some (.d R), some (.cell M.length), some (.d (.int (k : Int))), p4], M ++ [some (.l ((exN P row (k + 1)).map .int))], rfl, el_start ?_, rfl, _, _, rfl⟩
    rw [eS]
    repeat' (first | (wtm_at "mpA") | (with_reducible apply p_idx (i2 _)) | (wtm_at "mp0"))
    refine (congrArg (fun z => el z _ _) (e2 : forL _ _ _ _ _ _ = _)).trans ?_
    repeat' (first | (wtm_at "mpA") | (wtm_at "mp1"))
    rfl
  · obtain ⟨rfl, o3, o4, rfl⟩ := h
    rw [rngL_len]
    repeat' (first | (wtm_at "mpA") | (wtm_at "mp1"))
    exact r_c
/-! curvettes -/
def addF (q : Nat) (s : List Int) (r : Int) : List Int := s.set r.toNat (s.getD r.toNat 0 + s.getD q 0)
def curF (P : List (List Int)) (s : List Int) (q : Nat) : List Int := (ownP P q).foldl (addF q) s
def curM (P : List (List Int)) (p i : Nat) : List Int := (List.range i).foldl (fun s i => curF P s (p - i)) ((List.replicate P.length 0).set p 1)
def curL (P : List (List Int)) (p : Nat) : List Int := curM P p (p + 1)
theorem add_len (q : Nat) : ∀ (own s : List Int), (own.foldl (addF q) s).length = s.length
  | [], s => rfl
  | p :: own, s => by
    show (own.foldl (addF q) (addF q s p)).length = s.length
    rw [add_len q own]
    unfold addF
    rw [List.length_set]
theorem curM_succ (P : List (List Int)) (p i : Nat) : curM P p (i + 1) = curF P (curM P p i) (p - i) := by
  unfold curM
  rw [List.range_succ, List.foldl_append]
  rfl
theorem curM_len (P : List (List Int)) (p : Nat) : ∀ i, (curM P p i).length = P.length
  | 0 => by
    show ((List.replicate P.length (0 : Int)).set p 1).length = _
    rw [List.length_set, List.length_replicate]
  | i + 1 => by
    rw [curM_succ]
    unfold curF
    rw [add_len, curM_len P p i]
def LcB : SS := (sSeq2 (sSetI (sVar 2) (sVar 4) (sBin .Add (sIdx (sVar 2) (sVar 4)) (sIdx (sVar 2) (sVar 3)))) sSkip)
theorem ladd_ok {s own : List Int} {k : Nat} (hk : k < s.length) (h : ∀ q ∈ own, 0 ≤ q ∧ q < s.length) {M : Mem} {o0 o1 o4 : Option AV} :
    ∃ p4, forL LcB (.name 4) [] (own.map D.int) [o0, o1, some (.cell M.length), some (.d (.int (k : Int))), o4] (M ++ [some (.l (s.map .int))]) = .ok (.next [o0, o1, some (.cell M.length), some (.d (.int (k : Int))), p4]) (M ++ [some (.l ((own.foldl (addF k) s).map .int))]) := by
  obtain ⟨env', M', e, p4, rfl, hl, rfl⟩ := for_fold (I := fun (t : List Int) env M' => ∃ p4, env = [o0, o1, some (.cell M.length), some (.d (.int (k : Int))), p4] ∧ t.length = s.length ∧ M' = M ++ [some (.l (t.map .int))]) (body := LcB) (tg := .name 4) (fun t d => match d with | .int p => addF k t p | _ => t) (own.map D.int) (fun d hd t env M' h' => by
    obtain ⟨p4, rfl, hl, rfl⟩ := h'
    obtain ⟨q, hq, rfl⟩ := List.mem_map.mp hd
    have hq := h q hq
    have i1 := get_cell (M := M) (t := t) (q := q) (by omega)
    have i2 := get_cell (M := M) (t := t) (q := (k : Int)) (by omega)
    rw [Int.toNat_natCast] at i2
    have ev : (sBin .Add (sIdx (sVar 2) (sVar 4)) (sIdx (sVar 2) (sVar 3))) [o0, o1, some (.cell M.length), some (.d (.int (k : Int))), some (.d (.int q))] (M ++ [some (.l (t.map D.int))]) = .ok (.d (.int (t.getD q.toNat 0 + t.getD k 0))) (M ++ [some (.l (t.map D.int))]) := by
      refine el_start ?_
      repeat' (first | (wtm_at "mpA") | (with_reducible apply p_idx i1) | (with_reducible apply p_idx i2) | (wtm_at "mp1"))
      rfl
    have e := setI_eq (fo := sVar 2) (fi := sVar 4) (env := [o0, o1, some (.cell M.length), some (.d (.int (k : Int))), some (.d (.int q))]) (c := M.length) (i := q) (xs := t.map D.int) rfl rfl ev last_get ⟨hq.1, by rw [List.length_map]; omega⟩
    rw [last_set, set_map] at e
    refine ⟨_, [o0, o1, some (.cell M.length), some (.d (.int (k : Int))), some (.d (.int q))], M ++ [some (.l ((addF k t q).map .int))], rfl, el_start (e_stmt e (e_skip rfl)), some (.d (.int q)), rfl, ?_, rfl⟩
    show (addF k t q).length = s.length
    unfold addF
    rw [List.length_set, hl]) s [o0, o1, some (.cell M.length), some (.d (.int (k : Int))), o4] (M ++ [some (.l (s.map .int))]) ⟨o4, rfl, rfl, rfl⟩
  refine ⟨p4, ?_⟩
  rw [e, foldl_map]
theorem rngC_get {lo c : Int} {n i : Nat} {d : D} (h : (rngC lo c n)[i]? = some d) : i < n ∧ d = .int (lo + i * c) := by
  have hi : i < n := by
    have := (List.getElem?_eq_some_iff.mp h).1
    rw [rngC_len] at this
    exact this
  rw [rngC_at hi] at h
  exact ⟨hi, by cases h; rfl⟩
theorem o_rng3 {β : Type} {res : Out β} {i : Int} {k : Itm → Out β} (hi : -1 ≤ i ∧ i ≤ 1000000) (h : k ⟨rngC i (-1) (i - -1).toNat, []⟩ = res) : optK (rngItm [.d (.int i), .d (.int (-1)), .d (.int (-1))]) k = res := by
  unfold rngItm
  dsimp only
  rw [if_pos rfl, sm62 (i := i) (by omega) (by omega), sm62 (i := -1) (by omega) (by omega)]
  exact h
theorem r_fA {M X : Mem} {xs : List D} : endK M.length (.ret (.fr xs)) (M ++ X) = .ok (.fr xs) M := by
  show Out.ok (AV.fr xs) ((M ++ X).take M.length) = _
  rw [List.take_left]
theorem o_rng30 {β : Type} {res : Out β} {i : Int} {k : Itm → Out β} (hi : 0 ≤ i ∧ i ≤ 1000000) (h : k ⟨rngC i (-1) (i - 0).toNat, []⟩ = res) : optK (rngItm [.d (.int i), .d (.int 0), .d (.int (-1))]) k = res := by
  unfold rngItm
  dsimp only
  rw [if_pos rfl, sm62 (i := i) (by omega) (by omega), sm62 (i := 0) (by omega) (by omega)]
  exact h
theorem ownP_zero {P : List (List Int)} (hP : VP P) : ownP P 0 = [] := by
  rcases h : ownP P 0 with _ | ⟨q, r⟩
  · rfl
  · have := hP 0 q (by rw [h]; exact List.mem_cons_self)
    omega
theorem curL_M {P : List (List Int)} (hP : VP P) (p : Nat) : curL P p = curM P p p := by
  unfold curL
  rw [curM_succ]
  unfold curF
  rw [Nat.sub_self, ownP_zero hP]
  rfl

/-! what is a number, a weight, a row of weights -/
def isI : D → Bool
  | .int _ => true
  | _ => false
theorem isintD (d : D) (hf : ∀ x, d ≠ .fn x) {M : Mem} : Fis_integer [.d d] M = .ok (.d (.bl (isI d))) M := by
  unfold Fis_integer
  refine e_fn rfl ?_
  unfold Tis_integer
  cases d with
  | non => repeat' (first | (wtm_at "mpA") | (wtm_at "mp2"))
  | bl b => repeat' (first | (wtm_at "mpA") | (wtm_at "mp2"))
  | int i => repeat' (first | (wtm_at "mpA") | (wtm_at "mp2"))
  | str x => repeat' (first | (wtm_at "mpA") | (wtm_at "mp2"))
  | tup xs => repeat' (first | (wtm_at "mpA") | (wtm_at "mp2"))
  | lst xs => repeat' (first | (wtm_at "mpA") | (wtm_at "mp2"))
  | fn x => exact absurd rfl (hf x)
theorem isI_int {d : D} (h : isI d = true) : ∃ i, d = .int i := by
  cases d with
  | int i => exact ⟨i, rfl⟩
  | _ => cases h
def wB : D → Bool
  | .int m => decide (-100000 ≤ m ∧ m ≤ 100000)
  | _ => false
theorem wB_F {d : D} (h : isI d = false) : wB d = false := by
  cases d with
  | int i => cases h
  | _ => rfl
theorem wB_int (m : Int) : wB (.int m) = (decide (-100000 ≤ m) && decide (m ≤ 100000)) := by
  unfold wB
  simp [Bool.decide_and]
theorem wrow_ok {P : List (List Int)} {ds : List D} (hP : P.length ≤ 1000) (hd : ds.length ≤ 1000) (hf : ∀ d ∈ ds, ∀ x, d ≠ .fn x) {M : Mem} :
    Fis_weight_row [.d (tis P), .d (.tup ds)] M = .ok (.d (.bl (decide (ds.length = P.length) && ds.all wB))) M := by
  unfold Fis_weight_row
  refine e_fn rfl ?_
  unfold Tis_weight_row
  have hl : (P.map ti).length = P.length := List.length_map ..
  by_cases h : ds.length = P.length
  · rw [decide_eq_true h, Bool.true_and]
    repeat' (first | (wtm_at "mpA") | (wtm_at "mp0"))
    refine e_compE (fun d => .bl (wB d)) (fun _ => true) (fun d hd => ?_) (show ds.length ≤ 1000000 by omega) ?_
    · refine ⟨_, rfl, rfl, fun _ => ⟨.d (.bl (wB d)), el_start ?_, rfl⟩⟩
      by_cases hi : isI d = true
      · obtain ⟨m, rfl⟩ := isI_int hi
        rw [wB_int]
        repeat' (first | (wtm_at "mpA") | (with_reducible refine e_call isint ?_) | (wtm_at "mp1"))
        by_cases h1 : -100000 ≤ m
        · rw [decide_eq_true h1, Bool.true_and]
          repeat' (first | (wtm_at "mpA") | (wtm_at "mp1"))
          rfl
        · rw [decide_eq_false h1, Bool.false_and]
          rfl
      · have hi : isI d = false := by simpa using hi
        rw [wB_F hi]
        have e : ∀ M, Fis_integer [.d d] M = .ok (.d (.bl false)) M := fun M => by rw [isintD d (hf d hd), hi]
        repeat' (first | (wtm_at "mpA") | (with_reducible apply e_call (e _)) | (wtm_at "mp1"))
        rfl
    · have e : ((ds.filter fun _ => true).map fun d => D.bl (wB d)) = (ds.map wB).map D.bl := by
        rw [List.filter_eq_self.mpr (fun _ _ => rfl), List.map_map]
        rfl
      have e2 : (ds.map wB).all id = ds.all wB := by rw [List.all_map]; rfl
      dsimp only
      rw [e, ← e2]
      repeat' (first | (wtm_at "mpA") | (with_reducible apply e_call all_bls) | (wtm_at "mp1"))
  · rw [decide_eq_false h, Bool.false_and]
    repeat' (first | (wtm_at "mpA") | (wtm_at "mp0"))
/-! the rows that are no tuples -/
theorem wrow_no {P : List (List Int)} {d : D} (hf : ∀ x, d ≠ .fn x) (ht : ∀ xs, d ≠ .tup xs) {M : Mem} : Fis_weight_row [.d (tis P), .d d] M = .ok (.d (.bl false)) M := by
  unfold Fis_weight_row
  refine e_fn rfl ?_
  unfold Tis_weight_row
  cases d with
  | non => repeat' (first | (wtm_at "mpA") | (wtm_at "mp2"))
  | bl b => repeat' (first | (wtm_at "mpA") | (wtm_at "mp2"))
  | int i => repeat' (first | (wtm_at "mpA") | (wtm_at "mp2"))
  | str x => repeat' (first | (wtm_at "mpA") | (wtm_at "mp2"))
  | tup xs => exact absurd rfl (ht xs)
  | lst xs => repeat' (first | (wtm_at "mpA") | (wtm_at "mp2"))
  | fn x => exact absurd rfl (hf x)
/-! check_weighted -/
theorem chk_pts {v : D} {M : Mem} (h : ∀ M, Fis_points [.d v] M = .ok (.d (.bl true)) M) : Fcheck_points [.d v] M = .ok (.d .non) M := by
  unfold Fcheck_points
  refine e_fn rfl ?_
  unfold Tcheck_points
  repeat' (first | (wtm_at "mpA") | (with_reducible apply e_call (h _)) | (wtm_at "mp2"))
theorem chk_w {P r : D} {M : Mem} (h : ∀ M, Fis_points [.d P] M = .ok (.d (.bl true)) M) (h2 : ∀ M, Fis_weight_row [.d P, .d r] M = .ok (.d (.bl true)) M) : Fcheck_weighted [.d P, .d r] M = .ok (.d .non) M := by
  unfold Fcheck_weighted
  refine e_fn rfl ?_
  unfold Tcheck_weighted
  repeat' (first | (wtm_at "mpA") | (with_reducible apply e_call (chk_pts h)) | (with_reducible apply e_call (h2 _)) | (wtm_at "mp2"))

/-! values, excesses: what the module answers for good rows -/
def Good (P : List (List Int)) : Prop := ∀ M, Fis_points [.d (tis P)] M = .ok (.d (.bl true)) M
def GoodW (P : List (List Int)) (row : List Int) : Prop := ∀ M, Fis_weight_row [.d (tis P), .d (ti row)] M = .ok (.d (.bl true)) M
theorem cw_ok {P : List (List Int)} {row : List Int} (hG : Good P) (hW : GoodW P row) (M : Mem) : Fcheck_weighted [.d (tis P), .d (ti row)] M = .ok (.d .non) M :=
  chk_w (P := tis P) (r := ti row) (fun M => hG M) (fun M => hW M)
def minI : List Int → Int
  | [] => 0
  | x :: r => minL x r
theorem min_lst {x : Int} {r : List Int} {M : Mem} : minOp2 [.d (.lst ((x :: r).map .int))] M = .ok (.d (.int (minI (x :: r)))) M := min2_l
theorem min_tup {x : Int} {r : List Int} {M : Mem} : minOp2 [.d (ti (x :: r))] M = .ok (.d (.int (minI (x :: r)))) M := min2_t

/-! multiplicities of values, the meeting sum -/
theorem enum_list {α : Type} (f : α → D) : ∀ (xs : List α) (j : Nat), ∀ d ∈ enumL j (xs.map f), ∃ k x, xs[k]? = some x ∧ d = .tup [.int ((j + k : Nat) : Int), f x] := by
  intro xs j d hd
  obtain ⟨i, hi⟩ := List.getElem?_of_mem hd
  obtain ⟨x, h1, h2⟩ := enum_get f xs j i d hi
  exact ⟨i, x, h1, h2⟩
theorem enum_mul (g : Nat → Int → Int) : ∀ (xs : List Int) (j : Nat), (enumL j (xs.map D.int)).map (fun d => match d with | .tup [.int p, .int v] => D.int (g p.toNat v) | d => d) = ((List.range xs.length).map fun p => g (j + p) (xs.getD p 0)).map D.int
  | [], j => rfl
  | x :: r, j => by
    have ih := enum_mul g r (j + 1)
    have e : ((List.range (r.length + 1)).map fun p => g (j + p) ((x :: r).getD p 0)) = g j x :: (List.range r.length).map fun p => g (j + 1 + p) (r.getD p 0) := by
      rw [List.range_succ_eq_map, List.map_cons, List.map_map]
      refine congrArg (g j x :: ·) (List.map_congr_left fun p _ => ?_)
      show g (j + (p + 1)) ((x :: r).getD (p + 1) 0) = g (j + 1 + p) (r.getD p 0)
      rw [show j + 1 + p = j + (p + 1) by omega]
      rfl
    rw [List.length_cons, e, List.map_cons, List.map_cons, ← ih]
    show D.int (g ((j : Nat) : Int).toNat x) :: _ = _
    rw [Int.toNat_natCast]
def meetI (a b : List Int) : Int := ((List.zip a b).map fun p => p.1 * p.2).sum
def WB (row : List Int) : Prop := ∀ m ∈ row, -100000 ≤ m ∧ m ≤ 100000

/-! a number in a tuple of numbers; a tuple in a list of tuples -/
theorem any_eqv (q : Int) : ∀ c : List Int, ((c.map D.int).any fun z => D.eqv z (.int q)) = decide (q ∈ c)
  | [] => by simp
  | a :: r => by
    have ih := any_eqv q r
    show (D.eqv (.int a) (.int q) || (r.map D.int).any fun z => D.eqv z (.int q)) = _
    rw [ih, eqv_ii]
    by_cases h : a = q <;> by_cases h2 : q ∈ r <;> simp [h, h2, eq_comm]
    · intro e
      exact h e.symm
theorem in_ti (q : Int) (c : List Int) (M : Mem) : cmpop .In (.d (.int q)) (.d (ti c)) M = .ok (.d (.bl (decide (q ∈ c)))) M := by
  have e : cmpv .In M (.d (.int q)) (.d (ti c)) = some ((c.map D.int).any fun z => D.eqv z (.int q)) := by
    have hs : (c.map D.int).all D.scal = true := by
      rw [List.all_map]
      exact List.all_eq_true.mpr fun _ _ => rfl
    show (if ((D.int q).scal && (c.map D.int).all D.scal) = true then some ((c.map D.int).any fun z => D.eqv z (.int q)) else if ((D.int q).ok && (D.tup (c.map D.int)).ok && (AV.d (ti c)).plain) = true then some ((c.map D.int).any fun z => D.eqv z (.int q)) else none) = _
    rw [hs]
    rfl
  unfold cmpop
  rw [e, any_eqv]
theorem notin_ti (q : Int) (c : List Int) (M : Mem) : cmpop .NotIn (.d (.int q)) (.d (ti c)) M = .ok (.d (.bl (!decide (q ∈ c)))) M := by
  have e : cmpv .NotIn M (.d (.int q)) (.d (ti c)) = some (!(c.map D.int).any fun z => D.eqv z (.int q)) := by
    have hs : (c.map D.int).all D.scal = true := by
      rw [List.all_map]
      exact List.all_eq_true.mpr fun _ _ => rfl
    show (if ((D.int q).scal && (c.map D.int).all D.scal) = true then some (!(c.map D.int).any fun z => D.eqv z (.int q)) else if ((D.int q).ok && (D.tup (c.map D.int)).ok && (AV.d (ti c)).plain) = true then some (!(c.map D.int).any fun z => D.eqv z (.int q)) else none) = _
    rw [hs]
    rfl
  unfold cmpop
  rw [e, any_eqv]
/-! the proximity table -/
def cellI (own : List Int) (p q : Nat) : Int := if p = q then 1 else -(if decide ((q : Int) ∈ own) = true then 1 else 0)
def rowI (P : List (List Int)) (p : Nat) : List Int := (List.range P.length).map fun q => cellI (ownP P p) p q
def tabL (P : List (List Int)) : List (List Int) := (List.range P.length).map (rowI P)
/-- the cell, as both write it: the row's and the column's number at v + 0 and v + 1 of the environment's end -/
theorem int_bl {b : Bool} {M : Mem} : intOp [.d (.bl b)] M = .ok (.d (.int (if b = true then 1 else 0))) M := rfl

/-! one item of a list of points: the points ahead of it are good (P), what follows is anything -/
def qB (p : Int) : D → Bool
  | .int q => decide (0 ≤ q) && decide (q < p)
  | _ => false
def itemB (P : List (List Int)) : List Int → Bool
  | [a] => qB P.length (.int a)
  | [a, b] => (qB P.length (.int a) && qB P.length (.int b)) && decide (b ∈ ownP P a.toNat)
  | _ => false
theorem qB_F {p : Int} {d : D} (h : isI d = false) : qB p d = false := by
  cases d with
  | int i => cases h
  | _ => rfl
theorem idx_pre {P : List (List Int)} {rest : List D} {q : Int} (h : 0 ≤ q ∧ q < P.length) (M : Mem) : idx (.d (.tup (P.map ti ++ rest))) (.d (.int q)) M = .ok (.d (ti (ownP P q.toNat))) M := by
  refine idx_tup (atI_int h.1 ?_)
  have hq : q.toNat < P.length := by omega
  rw [List.getElem?_append_left (by rw [List.length_map]; exact hq), List.getElem?_map]
  unfold ownP
  rw [List.getD_eq_getElem?_getD, List.getElem?_eq_getElem hq]
  rfl
/-- a number of an item: an int of the right size -/
theorem q_comp {β : Type} {kx : Exc → Mem → Out β} {res : Out β} {k : AV → Mem → Out β} {ds own : List D} {p : Int} {M : Mem} {d0 : D} (hf : ∀ d ∈ own, ∀ x, d ≠ .fn x) (hl : own.length ≤ 1000)
    (q : k (.fr ((own.map (qB p)).map .bl)) M = res) :
    el (compL (sAnd (sArgs Fis_integer (sCons (sVar 3) sNil)) (sChain .LtE .Lt (sCon (.int 0)) (sVar 3) (sVar 1))) sYes (.name 3) (([("q", 3)] : List (Str × Nat)).map (·.2)) [] (initEnv 4 [.d (.tup ds), .d (.int p), .d d0]) own [] M) k kx = res := by
  refine e_compE (fun d => .bl (qB p d)) (fun _ => true) (fun d hd => ?_) (by omega) ?_
  · refine ⟨_, rfl, rfl, fun _ => ⟨.d (.bl (qB p d)), el_start ?_, rfl⟩⟩
    by_cases hi : isI d = true
    · obtain ⟨m, rfl⟩ := isI_int hi
      rw [show qB p (.int m) = (decide (0 ≤ m) && decide (m < p)) from rfl]
      repeat' (first | (wtm_at "mpA") | (with_reducible refine e_call isint ?_) | (wtm_at "mp1"))
      by_cases h1 : 0 ≤ m
      · rw [decide_eq_true h1, Bool.true_and]
        repeat' (first | (wtm_at "mpA") | (wtm_at "mp1"))
        rfl
      · rw [decide_eq_false h1, Bool.false_and]
        rfl
    · have hi : isI d = false := by simpa using hi
      rw [qB_F hi]
      have e : ∀ M, Fis_integer [.d d] M = .ok (.d (.bl false)) M := fun M => by rw [isintD d (hf d hd), hi]
      repeat' (first | (wtm_at "mpA") | (with_reducible apply e_call (e _)) | (wtm_at "mp1"))
      rfl
  · rw [List.filter_eq_self.mpr (fun _ _ => rfl)]
    rw [List.map_map] at q
    exact q
theorem item_lst {ds : List D} {p : Int} {xs : List D} {M : Mem} : Fis_item [.d (.tup ds), .d (.int p), .d (.lst xs)] M = .ok (.d (.bl false)) M := by
  unfold Fis_item
  refine e_fn rfl ?_
  unfold Tis_item
  repeat' (first | (wtm_at "mpA") | (wtm_at "mp2"))
theorem item_one {ds : List D} {p : Int} {d : D} (hf : ∀ x, d ≠ .fn x) {M : Mem} : Fis_item [.d (.tup ds), .d (.int p), .d (.tup [d])] M = .ok (.d (.bl (qB p d))) M := by
  have h2 : ∀ e ∈ [d], ∀ x, e ≠ .fn x := fun e he x => by rw [List.mem_singleton.mp he]; exact hf x
  unfold Fis_item
  refine e_fn rfl ?_
  unfold Tis_item
  repeat' (first | (wtm_at "mpA") | (wtm_at "mp0"))
  refine q_comp h2 (show 1 ≤ 1000 by decide) ?_
  have e : ∀ M, allOp [.d (.lst ((([d] : List D).map (qB p)).map .bl))] M = .ok (.d (.bl (qB p d))) M := fun M => by rw [all_bls]; simp
  repeat' (first | (wtm_at "mpA") | (with_reducible apply e_call (e _)) | (wtm_at "mp1"))
  cases qB p d with
  | true => repeat' (first | (wtm_at "mpA") | (wtm_at "mp1"))
  | false => repeat' (first | (wtm_at "mpA") | (wtm_at "mp1"))
theorem item_nil {ds : List D} {p : Int} {M : Mem} : Fis_item [.d (.tup ds), .d (.int p), .d (.tup [])] M = .ok (.d (.bl false)) M := by
  unfold Fis_item
  refine e_fn rfl ?_
  unfold Tis_item
  repeat' (first | (wtm_at "mpA") | (wtm_at "mp2"))
theorem item_long {ds : List D} {p : Int} {a b c : D} {r : List D} {M : Mem} : Fis_item [.d (.tup ds), .d (.int p), .d (.tup (a :: b :: c :: r))] M = .ok (.d (.bl false)) M := by
  have h1 : decide ((1 : Int) ≤ ((a :: b :: c :: r).length : Nat)) = true := decide_eq_true (by simp only [List.length_cons]; omega)
  unfold Fis_item
  refine e_fn rfl ?_
  unfold Tis_item
  repeat' (first | (wtm_at "mpA") | (wtm_at "mp0"))
  rw [h1]
  repeat' (first | (wtm_at "mpA") | (wtm_at "mp0"))
theorem item_two {P : List (List Int)} {rest : List D} {a b : Int} {M : Mem} : Fis_item [.d (.tup (P.map ti ++ rest)), .d (.int (P.length : Nat)), .d (ti [a, b])] M = .ok (.d (.bl (itemB P [a, b]))) M := by
  have h2 : ∀ e ∈ [D.int a, D.int b], ∀ x, e ≠ .fn x := fun e he x => by
    rcases List.mem_cons.mp he with rfl | he
    · exact fun h => nomatch h
    · rw [List.mem_singleton.mp he]
      exact fun h => nomatch h
  unfold Fis_item
  refine e_fn rfl ?_
  unfold Tis_item
  repeat' (first | (wtm_at "mpA") | (wtm_at "mp0"))
  refine q_comp h2 (show 2 ≤ 1000 by decide) ?_
  repeat' (first | (wtm_at "mpA") | (wtm_at "mp1"))
  rw [show itemB P [a, b] = ((qB (P.length : Nat) (.int a) && qB (P.length : Nat) (.int b)) && decide (b ∈ ownP P a.toNat)) from rfl]
  cases hA : qB (P.length : Nat) (.int a) with
  | false => repeat' (first | (wtm_at "mpA") | (wtm_at "mp1"))
  | true =>
    cases hB : qB (P.length : Nat) (.int b) with
    | false => repeat' (first | (wtm_at "mpA") | (wtm_at "mp1"))
    | true =>
      have ha : 0 ≤ a ∧ a < P.length := by
        unfold qB at hA
        simpa using hA
      have i1 := fun M => idx_pre (rest := rest) ha M
      repeat' (first | (wtm_at "mpA") | (with_reducible apply p_idx (i1 _)) | (with_reducible apply p_cmpE (in_ti _ _ _)) | (wtm_at "mp1"))
/-- the items that the law tries: tuples of ints, lists, a tuple of one thing that is no int -/
def ItK (d : D) : Prop := (∃ c : List Int, d = ti c) ∨ (∃ xs : List D, d = .lst xs) ∨ ∃ e : D, d = .tup [e] ∧ isI e = false ∧ ∀ x, e ≠ .fn x
def itB (P : List (List Int)) : D → Bool
  | .tup [.int a] => itemB P [a]
  | .tup [.int a, .int b] => itemB P [a, b]
  | _ => false
theorem item_ok {P : List (List Int)} {rest : List D} {d : D} (k : ItK d) {M : Mem} : Fis_item [.d (.tup (P.map ti ++ rest)), .d (.int (P.length : Nat)), .d d] M = .ok (.d (.bl (itB P d))) M := by
  rcases k with ⟨c, rfl⟩ | ⟨xs, rfl⟩ | ⟨e, rfl, h1, h2⟩
  · match c with
    | [] => exact item_nil
    | [a] => exact item_one (d := .int a) fun x h => nomatch h
    | [a, b] => exact item_two
    | a :: b :: c :: r => exact item_long
  · exact item_lst
  · rw [item_one h2, qB_F h1]
    cases e with
    | int i => cases h1
    | _ => rfl

/-! is_points: the walk over the items behind the good ones -/
def ptsB (P : List (List Int)) : List D → Bool
  | [] => true
  | d :: r => itB P d && match d with
    | .tup [.int a] => ptsB (P ++ [[a]]) r
    | .tup [.int a, .int b] => !decide ([a, b] ∈ P) && ptsB (P ++ [[a, b]]) r
    | _ => false
theorem itB_T {P : List (List Int)} {d : D} (h : itB P d = true) : (∃ a : Int, d = ti [a]) ∨ ∃ a b : Int, d = ti [a, b] := by
  unfold itB at h
  split at h
  · exact .inl ⟨_, rfl⟩
  · exact .inr ⟨_, _, rfl⟩
  · cases h
def IpB : SS := (sSeq2 (sIfS (sAndB (sB (sCmp .Gt (sVar 2) (sCon (.int 0)))) (sNotB (sB (sArgs Fis_item (sCons (sVar 0) (sCons (sVar 2) (sCons (sVar 3) sNil)))))))
 (sSeq2 (sRet (sCon (.bl false)))
 sSkip)
 sSkip)
 (sSeq2 (sIfS (sB (sCmp .Eq (sArgs lenOp (sCons (sVar 3) sNil)) (sCon (.int 2))))
 (sSeq2 (sIfS (sB (sInD false (sVar 3) (sVar 1)))
 (sSeq2 (sRet (sCon (.bl false)))
 sSkip)
 sSkip)
 (sSeq2 (sPutD (sVar 1) (sVar 3) (sCon (.bl true)))
 sSkip))
 sSkip)
 sSkip))
theorem ipb_eq {e : Env} {M : Mem} : IpB e M = (sSeq2 (sIfS (sAndB (sB (sCmp .Gt (sVar 2) (sCon (.int 0)))) (sNotB (sB (sArgs Fis_item (sCons (sVar 0) (sCons (sVar 2) (sCons (sVar 3) sNil)))))))
 (sSeq2 (sRet (sCon (.bl false)))
 sSkip)
 sSkip)
 (sSeq2 (sIfS (sB (sCmp .Eq (sArgs lenOp (sCons (sVar 3) sNil)) (sCon (.int 2))))
 (sSeq2 (sIfS (sB (sInD false (sVar 3) (sVar 1)))
 (sSeq2 (sRet (sCon (.bl false)))
 sSkip)
 sSkip)
 (sSeq2 (sPutD (sVar 1) (sVar 3) (sCon (.bl true)))
 sSkip))
 sSkip)
 sSkip)) e M := rfl
def KeyOk (P : List (List Int)) (kvs : List (List Int × D)) : Prop := kvs.length ≤ P.length ∧ ∀ a b, hasK kvs [a, b] = decide ([a, b] ∈ P)
theorem key_one {P : List (List Int)} {kvs : List (List Int × D)} (h : KeyOk P kvs) (a : Int) : KeyOk (P ++ [[a]]) kvs := by
  refine ⟨by rw [List.length_append]; have := h.1; omega, fun x y => ?_⟩
  rw [h.2 x y]
  simp
theorem key_two {P : List (List Int)} {kvs : List (List Int × D)} (h : KeyOk P kvs) {a b : Int} (hn : hasK kvs [a, b] = false) (v : D) : KeyOk (P ++ [[a, b]]) (putL kvs [a, b] v) := by
  have e : putL kvs [a, b] v = kvs ++ [([a, b], v)] := by
    unfold putL
    rw [hn]
    rfl
  rw [e]
  refine ⟨by rw [List.length_append, List.length_append]; have := h.1; simp; omega, fun x y => ?_⟩
  have h2 := h.2 x y
  unfold hasK at h2 ⊢
  rw [List.any_append, h2]
  by_cases h3 : [x, y] ∈ P
  · simp [h3]
  · simp [h3, eq_comm]
theorem lastM_get {M : Mem} {c : MC} : (M ++ [some c])[M.length]? = some (some c) := by
  rw [List.getElem?_append_right (Nat.le_refl _), Nat.sub_self]
  rfl
theorem lastM_set {M : Mem} {c d : MC} : (M ++ [some c]).set M.length (some d) = M ++ [some d] := by
  rw [List.set_append_right _ _ (Nat.le_refl _), Nat.sub_self]
  rfl
theorem pts_loop {β : Type} {kx : Exc → Mem → Out β} {res : Out β} {k : Fl → Mem → Out β} {M : Mem} {v : D} : ∀ (r : List D) (P : List (List Int)) (kvs : List (List Int × D)) (o2 o3 : Option AV), (∀ d ∈ r, ItK d) → 0 < P.length → P.length ≤ 1000 → P.length + r.length ≤ 1000 → v = .tup (P.map ti ++ r) → KeyOk P kvs →
    (ptsB P r = true → ∀ env' kvs', k (.next env') (M ++ [some (.t kvs')]) = res) → (ptsB P r = false → ∀ kvs', k (.ret (.d (.bl false))) (M ++ [some (.t kvs')]) = res) →
    el (forL IpB (.tup (.cons (.name 2) (.cons (.name 3) .nil))) [] (enumL P.length r) [some (.d v), some (.cell M.length), o2, o3] (M ++ [some (.t kvs)])) k kx = res
  | [], P, kvs, o2, o3, hi, h0, h1, h2, hv, hk, q1, q2 => f_nil rfl (q1 rfl _ _)
  | d :: r, P, kvs, o2, o3, hi, h0, h1, h2, hv, hk, q1, q2 => by
    have it : ∀ M, Fis_item [.d v, .d (.int (P.length : Nat)), .d d] M = .ok (.d (.bl (itB P d))) M := fun M => by rw [hv]; exact item_ok (hi d List.mem_cons_self)
    refine f_cons rfl rfl ?_
    rw [ipb_eq]
    repeat' (first | (wtm_at "mpA") | (with_reducible apply e_call (it _)) | (wtm_at "mp0"))
    cases hB : itB P d with
    | false =>
      repeat' (first | (wtm_at "mpA") | (wtm_at "mp0"))
      refine fk_r (q2 ?_ _)
      unfold ptsB
      rw [hB]
      rfl
    | true =>
      rcases itB_T hB with ⟨a, rfl⟩ | ⟨a, b, rfl⟩
      · have ep : ptsB P (ti [a] :: r) = ptsB (P ++ [[a]]) r := by
          show (itB P (ti [a]) && ptsB (P ++ [[a]]) r) = _
          rw [hB]
          rfl
        rw [ep] at q1 q2
        have hr : P.length + (r.length + 1) ≤ 1000 := h2
        have IH := pts_loop (M := M) (kx := kx) (k := k) (res := res) (v := v) r (P ++ [[a]]) kvs (some (.d (.int (P.length : Nat)))) (some (.d (ti [a]))) (fun d hd => hi d (.tail _ hd)) (by rw [List.length_append]; omega) (by rw [List.length_append, List.length_singleton]; omega) (by rw [List.length_append, List.length_singleton]; omega) (by rw [hv, List.map_append, List.append_assoc]; rfl) (key_one hk a) q1 q2
        rw [List.length_append, List.length_singleton] at IH
        repeat' (first | (wtm_at "mpA") | (wtm_at "mp0"))
        exact fk_n IH
      · have hr : P.length + (r.length + 1) ≤ 1000 := h2
        have hc := hk.1
        repeat' (first | (wtm_at "mpA") | (wtm_at "mp0"))
        refine p_inD (dIn_t rfl lastM_get) ?_
        have hk2 := hk.2 a b
        cases hh : hasK kvs [a, b] with
        | true =>
          have ep : ptsB P (ti [a, b] :: r) = false := by
            show (itB P (ti [a, b]) && (!decide ([a, b] ∈ P) && ptsB (P ++ [[a, b]]) r)) = _
            rw [← hk2, hh, hB]
            rfl
          repeat' (first | (wtm_at "mpA") | (wtm_at "mp0"))
          exact fk_r (q2 ep _)
        | false =>
          have ep : ptsB P (ti [a, b] :: r) = ptsB (P ++ [[a, b]]) r := by
            show (itB P (ti [a, b]) && (!decide ([a, b] ∈ P) && ptsB (P ++ [[a, b]]) r)) = _
            rw [← hk2, hh, hB]
            rfl
          rw [ep] at q1 q2
          have IH := pts_loop (M := M) (kx := kx) (k := k) (res := res) (v := v) r (P ++ [[a, b]]) (putL kvs [a, b] (.bl true)) (some (.d (.int (P.length : Nat)))) (some (.d (ti [a, b]))) (fun d hd => hi d (.tail _ hd)) (by rw [List.length_append]; omega) (by rw [List.length_append, List.length_singleton]; omega) (by rw [List.length_append, List.length_singleton]; omega) (by rw [hv, List.map_append, List.append_assoc]; rfl) (key_two hk hh _) q1 q2
          rw [List.length_append, List.length_singleton] at IH
          repeat' (first | (wtm_at "mpA") | (wtm_at "mp0"))
          refine p_putD (dPut_t rfl lastM_get (by omega)) ?_
          rw [lastM_set]
          repeat' (first | (wtm_at "mpA") | (wtm_at "mp0"))
          exact fk_n IH

/-! is_points -/
theorem ispts_ok {r : List D} (hi : ∀ d ∈ r, ItK d) (hl : r.length ≤ 500) {M : Mem} : Fis_points [.d (.tup (ti [] :: r))] M = .ok (.d (.bl (decide (r.length + 1 ≤ 60) && ptsB [[]] r))) M := by
  have h1 : decide ((1 : Int) ≤ ((ti [] :: r).length : Nat)) = true := decide_eq_true (by rw [List.length_cons]; omega)
  have h2 : decide ((((ti [] :: r).length : Nat) : Int) ≤ 60) = decide (r.length + 1 ≤ 60) := by
    rw [List.length_cons]
    by_cases h : r.length + 1 ≤ 60
    · rw [decide_eq_true h, decide_eq_true (by omega)]
    · rw [decide_eq_false h, decide_eq_false (by omega)]
  unfold Fis_points
  refine e_fn rfl ?_
  unfold Tis_points
  repeat' (first | (wtm_at "mpA") | (wtm_at "mp0"))
  rw [h1]
  repeat' (first | (wtm_at "mpA") | (wtm_at "mp0"))
  rw [h2]
  by_cases h : r.length + 1 ≤ 60
  · rw [decide_eq_true h, Bool.true_and]
    have i0 : ∀ M, idx (.d (.tup (ti [] :: r))) (.d (.int 0)) M = .ok (.d (ti [])) M := fun M => idx_tup (atI_int (by decide) (by rfl))
    repeat' (first | (wtm_at "mpA") | (with_reducible apply p_idx (i0 _)) | (wtm_at "mp0"))
    refine f_cons (body := IpB) (d := .tup [.int 0, ti []]) (r := enumL 1 r) rfl rfl ?_
    rw [ipb_eq]
    repeat' (first | (wtm_at "mpA") | (wtm_at "mp0"))
    refine fk_n ?_
    refine pts_loop (M := M) (v := .tup (ti [] :: r)) r [[]] [] (some (.d (.int 0))) (some (.d (ti []))) hi (by decide) (by decide) (show 1 + r.length ≤ 1000 by omega) rfl ⟨by decide, fun a b => by simp [hasK]⟩ (fun e env' kvs' => ?_) (fun e kvs' => ?_)
    · rw [e]
      repeat' (first | (wtm_at "mpA") | (wtm_at "mp0"))
      exact r_dL
    · rw [e]
      repeat' (first | (wtm_at "mpA") | (wtm_at "mp0"))
      exact r_dL
  · rw [decide_eq_false h, Bool.false_and]
    repeat' (first | (wtm_at "mpA") | (wtm_at "mp0"))
/-- what is no tuple -/
theorem ispts_no {d : D} (hf : ∀ x, d ≠ .fn x) (ht : ∀ xs, d ≠ .tup xs) {M : Mem} : Fis_points [.d d] M = .ok (.d (.bl false)) M := by
  unfold Fis_points
  refine e_fn rfl ?_
  unfold Tis_points
  cases d with
  | non => repeat' (first | (wtm_at "mpA") | (wtm_at "mp2"))
  | bl b => repeat' (first | (wtm_at "mpA") | (wtm_at "mp2"))
  | int i => repeat' (first | (wtm_at "mpA") | (wtm_at "mp2"))
  | str x => repeat' (first | (wtm_at "mpA") | (wtm_at "mp2"))
  | tup xs => exact absurd rfl (ht xs)
  | lst xs => repeat' (first | (wtm_at "mpA") | (wtm_at "mp2"))
  | fn x => exact absurd rfl (hf x)
theorem ispts_nil {M : Mem} : Fis_points [.d (.tup [])] M = .ok (.d (.bl false)) M := by
  unfold Fis_points
  refine e_fn rfl ?_
  unfold Tis_points
  repeat' (first | (wtm_at "mpA") | (wtm_at "mp2"))

/-! _law_is_points: the same answer -/
theorem rngL_cons (lo : Int) (n : Nat) : rngL lo (n + 1) = .int lo :: rngL (lo + 1) n := by
  unfold rngL
  rw [List.range_succ_eq_map, List.map_cons, List.map_map]
  refine congr (congrArg List.cons ?_) (List.map_congr_left fun k _ => ?_)
  · show D.int (lo + ((0 : Nat) : Int)) = _
    rw [Int.natCast_zero, Int.add_zero]
  · show D.int (lo + ((k + 1 : Nat) : Int)) = D.int (lo + 1 + (k : Nat))
    congr 1
    omega
theorem in_tis (c : List Int) (L : List (List Int)) (M : Mem) : cmpop .In (.d (ti c)) (.d (tis L)) M = .ok (.d (.bl (decide (c ∈ L)))) M := by
  have e : cmpv .In M (.d (ti c)) (.d (tis L)) = some ((L.map ti).any fun z => D.eqv z (ti c)) := by
    have o1 := ok_ti c
    have o2 : (D.tup (L.map ti)).ok = true := ok_tis L
    show (if ((ti c).scal && (L.map ti).all D.scal) = true then some ((L.map ti).any fun z => D.eqv z (ti c)) else if ((ti c).ok && (D.tup (L.map ti)).ok && (AV.d (tis L)).plain) = true then some ((L.map ti).any fun z => D.eqv z (ti c)) else none) = _
    rw [o1, o2]
    rfl
  have e2 : ((L.map ti).any fun z => D.eqv z (ti c)) = decide (c ∈ L) := by
    induction L with
    | nil => simp
    | cons a r ih =>
      have ih := ih (by
        have o1 := ok_ti c
        have o2 : (D.tup (r.map ti)).ok = true := ok_tis r
        show (if ((ti c).scal && (r.map ti).all D.scal) = true then some ((r.map ti).any fun z => D.eqv z (ti c)) else if ((ti c).ok && (D.tup (r.map ti)).ok && (AV.d (tis r)).plain) = true then some ((r.map ti).any fun z => D.eqv z (ti c)) else none) = _
        rw [o1, o2]
        rfl)
      rw [List.map_cons, List.any_cons, ih, eqv_ti]
      by_cases h : a = c <;> by_cases h2 : c ∈ r <;> simp [h, h2, eq_comm]
      intro e
      exact h e.symm
  unfold cmpop
  rw [e, e2]

/-! _law_is_points: the walk behind the first item -/
/-- one turn: what it leaves -/
theorem idx_mid {P : List (List Int)} {d : D} {r : List D} {M : Mem} : idx (.d (.tup (P.map ti ++ d :: r))) (.d (.int (P.length : Nat))) M = .ok (.d d) M := by
  refine idx_tup (atI_int (by omega) ?_)
  rw [Int.toNat_natCast, List.getElem?_append_right (by rw [List.length_map]; exact Nat.le_refl _), List.length_map, Nat.sub_self]
  rfl
def TupK (d : D) : Prop := (∃ c : List Int, d = ti c) ∨ ∃ e : D, d = .tup [e] ∧ isI e = false ∧ ∀ x, e ≠ .fn x
theorem cut_pre {P : List (List Int)} {r : List D} {M : Mem} : cutop (.d (.tup (P.map ti ++ r))) none (some (P.length : Nat)) M = .ok (.d (tis P)) M := by
  show Out.ok (AV.d (.tup (cutG (P.map ti ++ r) none (some ((P.length : Nat) : Int))))) M = _
  have e : cutG (P.map ti ++ r) none (some ((P.length : Nat) : Int)) = P.map ti := by
    have e2 := cutG_nn (P.map ti ++ r) 0 P.length (Nat.zero_le _)
    rw [List.drop_zero, Nat.sub_zero] at e2
    rw [show cutG (P.map ti ++ r) none (some ((P.length : Nat) : Int)) = cutG (P.map ti ++ r) (some ((0 : Nat) : Int)) (some ((P.length : Nat) : Int)) from rfl, e2]
    have e3 : P.length = (P.map ti).length := (List.length_map ..).symm
    rw [e3, List.take_left]
  rw [e]

/-! _law_is_points -/
def isT : D → Bool
  | .tup _ => true
  | _ => false
theorem ptsB_lst : ∀ (r : List D) (P : List (List Int)), r.all isT = false → ptsB P r = false
  | [], _, h => by cases h
  | d :: r, P, h => by
    unfold ptsB
    rw [List.all_cons] at h
    split
    · rw [ptsB_lst r _ h, Bool.and_false]
    · rw [ptsB_lst r _ h, Bool.and_false, Bool.and_false]
    · rw [Bool.and_false]
theorem isiT {d : D} (hf : ∀ x, d ≠ .fn x) {M : Mem} : isiOp ["tuple"] (.d d) M = .ok (.d (.bl (isT d))) M := by
  cases d with
  | fn x => exact absurd rfl (hf x)
  | _ => rfl
theorem itk_fn {d : D} (h : ItK d) : ∀ x, d ≠ .fn x := by
  rcases h with ⟨c, rfl⟩ | ⟨xs, rfl⟩ | ⟨e, rfl, _⟩ <;> exact fun x h => nomatch h
theorem o_rngX {β : Type} {res : Out β} {r : List D} {k : Itm → Out β} (hl : r.length ≤ 500) (h : k ⟨rngL 1 r.length, []⟩ = res) : optK (rngItm [.d (.int 1), .d (.int ((ti [] :: r).length : Nat))]) k = res := by
  have e : (((ti [] :: r).length : Nat) : Int) = (r.length : Int) + 1 := by rw [List.length_cons]; rfl
  rw [e]
  refine o_rng2 (by omega) (by omega) ?_
  rw [show ((r.length : Int) + 1 - 1).toNat = r.length by omega]
  exact h

/-! both, where the first item is no () or the value is no tuple -/
theorem ispts_head {d : D} {r : List D} (hd : (∃ a c, d = .tup (a :: c)) ∨ ∃ xs, d = .lst xs) (hl : r.length ≤ 500) {M : Mem} : Fis_points [.d (.tup (d :: r))] M = .ok (.d (.bl false)) M := by
  have h1 : decide ((1 : Int) ≤ ((d :: r).length : Nat)) = true := decide_eq_true (by rw [List.length_cons]; omega)
  have i0 : ∀ M, idx (.d (.tup (d :: r))) (.d (.int 0)) M = .ok (.d d) M := fun M => idx_tup (atI_int (by decide) (by rfl))
  unfold Fis_points
  refine e_fn rfl ?_
  unfold Tis_points
  repeat' (first | (wtm_at "mpA") | (wtm_at "mp0"))
  rw [h1]
  repeat' (first | (wtm_at "mpA") | (wtm_at "mp0"))
  generalize decide ((((d :: r).length : Nat) : Int) ≤ 60) = b
  cases b with
  | false => repeat' (first | (wtm_at "mpA") | (wtm_at "mp0"))
  | true =>
    rcases hd with ⟨a, c, rfl⟩ | ⟨xs, rfl⟩
    · have h2 : decide ((((a :: c).length : Nat) : Int) > 0) = true := decide_eq_true (by rw [List.length_cons]; omega)
      repeat' (first | (wtm_at "mpA") | (with_reducible apply p_idx (i0 _)) | (wtm_at "mp0"))
      rw [h2]
      repeat' (first | (wtm_at "mpA") | (wtm_at "mp0"))
    · repeat' (first | (wtm_at "mpA") | (with_reducible apply p_idx (i0 _)) | (wtm_at "mp0"))

theorem ne_nil {M : Mem} : cmpop .NotEq (.d (.tup [])) (.d (.tup [])) M = .ok (.d (.bl false)) M := by rfl
theorem ne_ti (c d : List Int) (M : Mem) : cmpop .NotEq (.d (ti c)) (.d (ti d)) M = .ok (.d (.bl (!decide (c = d)))) M := by
  rw [← eqv_ti]
  unfold cmpop cmpv look
  dsimp only
  rw [ok_ti, ok_ti]
  rfl

/-! the checks that raise -/
theorem chk_bad {v : D} {M : Mem} (h : ∀ M, Fis_points [.d v] M = .ok (.d (.bl false)) M) : Fcheck_points [.d v] M = .exc ⟨"Malformed", []⟩ M := by
  unfold Fcheck_points
  refine e_fn rfl ?_
  unfold Tcheck_points
  repeat' (first | (wtm_at "mpA") | (with_reducible apply e_call (h _)) | (wtm_at "mp2"))
theorem chkw_bad {v r : D} {M : Mem} (h : ∀ M, Fis_points [.d v] M = .ok (.d (.bl false)) M) : Fcheck_weighted [.d v, .d r] M = .exc ⟨"Malformed", []⟩ M := by
  unfold Fcheck_weighted
  refine e_fn rfl ?_
  unfold Tcheck_weighted
  repeat' (first | (wtm_at "mpA") | (with_reducible apply e_callX (chk_bad h)) | (wtm_at "mp2"))
theorem chkw_row {v r : D} {M : Mem} (h : ∀ M, Fis_points [.d v] M = .ok (.d (.bl true)) M) (h2 : ∀ M, Fis_weight_row [.d v, .d r] M = .ok (.d (.bl false)) M) : Fcheck_weighted [.d v, .d r] M = .exc ⟨"Malformed", []⟩ M := by
  unfold Fcheck_weighted
  refine e_fn rfl ?_
  unfold Tcheck_weighted
  repeat' (first | (wtm_at "mpA") | (with_reducible apply e_call (chk_pts h)) | (with_reducible apply e_call (h2 _)) | (wtm_at "mp2"))

/-! _law_raises: bad points -/

/-! one point more -/
theorem ptsB_snoc (c : List Int) : ∀ (t P : List (List Int)), ptsB P (t.map ti) = true → ptsB P (t.map ti ++ [ti c]) = ptsB (P ++ t) [ti c]
  | [], P, _ => by rw [List.append_nil]; rfl
  | [] :: t, P, h => by cases h
  | [a] :: t, P, h => by
    have h1 : (itB P (ti [a]) && ptsB (P ++ [[a]]) (t.map ti)) = true := h
    rw [Bool.and_eq_true] at h1
    have ih := ptsB_snoc c t (P ++ [[a]]) h1.2
    show (itB P (ti [a]) && ptsB (P ++ [[a]]) (t.map ti ++ [ti c])) = _
    rw [h1.1, Bool.true_and, ih, List.append_assoc]
    rfl
  | [a, b] :: t, P, h => by
    have h1 : (itB P (ti [a, b]) && (!decide ([a, b] ∈ P) && ptsB (P ++ [[a, b]]) (t.map ti))) = true := h
    rw [Bool.and_eq_true, Bool.and_eq_true] at h1
    have ih := ptsB_snoc c t (P ++ [[a, b]]) h1.2.2
    show (itB P (ti [a, b]) && (!decide ([a, b] ∈ P) && ptsB (P ++ [[a, b]]) (t.map ti ++ [ti c]))) = _
    rw [h1.1, h1.2.1, Bool.true_and, Bool.true_and, ih, List.append_assoc]
    rfl
  | (a :: b :: d :: r) :: t, P, h => by
    have h1 : (false && _) = true := h
    cases h1

/-! what is told of good points: each place is ahead, at most two of them -/
theorem itB_facts {P : List (List Int)} {c : List Int} (h : itB P (ti c) = true) : c.length ≤ 2 ∧ ∀ q ∈ c, 0 ≤ q ∧ q < P.length := by
  match c with
  | [] => cases h
  | [a] =>
    have h1 : (decide (0 ≤ a) && decide (a < (P.length : Nat))) = true := h
    simp only [Bool.and_eq_true, decide_eq_true_eq] at h1
    refine ⟨show 1 ≤ 2 by decide, fun q hq => ?_⟩
    rw [List.mem_singleton.mp hq]
    exact h1
  | [a, b] =>
    have h1 : (((decide (0 ≤ a) && decide (a < (P.length : Nat))) && (decide (0 ≤ b) && decide (b < (P.length : Nat)))) && decide (b ∈ ownP P a.toNat)) = true := h
    simp only [Bool.and_eq_true, decide_eq_true_eq] at h1
    refine ⟨show 2 ≤ 2 by decide, fun q hq => ?_⟩
    rcases List.mem_cons.mp hq with rfl | hq
    · exact h1.1.1
    · rw [List.mem_singleton.mp hq]
      exact h1.1.2
  | a :: b :: d :: r => cases h
theorem itB_ti {P : List (List Int)} {c : List Int} {r : List (List Int)} (h : ptsB P (ti c :: r.map ti) = true) : itB P (ti c) = true ∧ ptsB (P ++ [c]) (r.map ti) = true := by
  match c with
  | [] => cases h
  | [a] =>
    have h1 : (itB P (ti [a]) && ptsB (P ++ [[a]]) (r.map ti)) = true := h
    rw [Bool.and_eq_true] at h1
    exact h1
  | [a, b] =>
    have h1 : (itB P (ti [a, b]) && (!decide ([a, b] ∈ P) && ptsB (P ++ [[a, b]]) (r.map ti))) = true := h
    rw [Bool.and_eq_true, Bool.and_eq_true] at h1
    exact ⟨h1.1, h1.2.2⟩
  | a :: b :: d :: t =>
    have h1 : (false && _) = true := h
    cases h1

/-! the points behind good ones are good -/
def VPn (P : List (List Int)) : Prop := ∀ p, (ownP P p).length ≤ 2 ∧ ∀ q ∈ ownP P p, 0 ≤ q ∧ q < p
theorem own_snoc {P : List (List Int)} {c : List Int} (p : Nat) : ownP (P ++ [c]) p = if p = P.length then c else ownP P p := by
  unfold ownP
  rw [List.getD_eq_getElem?_getD, List.getD_eq_getElem?_getD]
  by_cases h : p = P.length
  · subst h
    rw [if_pos rfl, List.getElem?_append_right (Nat.le_refl _), Nat.sub_self]
    rfl
  · rw [if_neg h]
    by_cases h2 : p < P.length
    · rw [List.getElem?_append_left h2]
    · rw [List.getElem?_eq_none (by rw [List.length_append, List.length_singleton]; omega), List.getElem?_eq_none (by omega)]
theorem pts_VP : ∀ (t P : List (List Int)), VPn P → ptsB P (t.map ti) = true → VPn (P ++ t)
  | [], P, h, _ => by rw [List.append_nil]; exact h
  | c :: t, P, h, hp => by
    obtain ⟨h1, h2⟩ := itB_ti hp
    obtain ⟨f1, f2⟩ := itB_facts h1
    have h3 : VPn (P ++ [c]) := fun p => by
      rw [own_snoc]
      by_cases e : p = P.length
      · subst e
        rw [if_pos rfl]
        exact ⟨f1, f2⟩
      · rw [if_neg e]
        exact h p
    have := pts_VP t (P ++ [c]) h3 h2
    rw [List.append_assoc] at this
    exact this

/-! good rows, good points: the checks answer True -/
theorem goodW_ok {P : List (List Int)} {row : List Int} (h60 : P.length ≤ 1000) (hl : row.length = P.length) (hb : WB row) : GoodW P row := fun M => by
  have e : (row.map D.int).all wB = true := by
    rw [List.all_map]
    refine List.all_eq_true.mpr fun m hm => ?_
    show decide (-100000 ≤ m ∧ m ≤ 100000) = true
    exact decide_eq_true (hb m hm)
  have hw := wrow_ok (P := P) (ds := row.map D.int) h60 (by rw [List.length_map]; omega) (fun d hd x h => by obtain ⟨i, _, rfl⟩ := List.mem_map.mp hd; cases h) (M := M)
  rw [e, decide_eq_true (by rw [List.length_map]; exact hl)] at hw
  exact hw
theorem good_ok {t : List (List Int)} (hl : t.length + 1 ≤ 60) (h : ptsB [[]] (t.map ti) = true) : Good ([] :: t) := fun M => by
  have hw := ispts_ok (r := t.map ti) (fun d hd => by obtain ⟨c, _, rfl⟩ := List.mem_map.mp hd; exact .inl ⟨c, rfl⟩) (by rw [List.length_map]; omega) (M := M)
  rw [h, decide_eq_true (by rw [List.length_map]; exact hl)] at hw
  exact hw

/-! multiplicities of the values: the row -/
theorem valN_get (P : List (List Int)) (row : List Int) (p : Nat) : ∀ n, p < n → (valN P row n).getD p 0 = row.getD p 0 + ((ownP P p).map (gI (valN P row p))).sum
  | 0, h => by omega
  | n + 1, h => by
    rw [valN_succ]
    unfold valF
    have hn := valN_len P row n
    rw [List.getD_eq_getElem?_getD]
    by_cases e : p = n
    · subst e
      rw [List.getElem?_append_right (by omega), hn, Nat.sub_self]
      rfl
    · rw [List.getElem?_append_left (by omega), ← List.getD_eq_getElem?_getD]
      exact valN_get P row p n (by omega)
theorem valN_pre (P : List (List Int)) (row : List Int) {q : Int} {p n : Nat} (h0 : 0 ≤ q) (h : q < p) (hp : p ≤ n) : gI (valN P row n) q = gI (valN P row p) q := by
  unfold gI
  rw [valN_get P row q.toNat n (by omega), valN_get P row q.toNat p (by omega)]
theorem mul_val {P : List (List Int)} {row : List Int} (hP : VP P) : mulL P (valL P row) = row := by
  have hl : (valL P row).length = row.length := valN_len P row row.length
  unfold mulL
  rw [hl]
  apply List.ext_getElem
  · rw [List.length_map, List.length_range]
  · intro p h1 h2
    rw [List.getElem_map, List.getElem_range]
    have e : ((ownP P p).map (gI (valL P row))) = (ownP P p).map (gI (valN P row p)) := List.map_congr_left fun q hq => valN_pre P row (hP p q hq).1 (hP p q hq).2 (by omega)
    have e2 : (valL P row).getD p 0 = row.getD p 0 + ((ownP P p).map (gI (valN P row p))).sum := valN_get P row p row.length h2
    rw [e, e2, List.getD_eq_getElem?_getD, List.getElem?_eq_getElem h2]
    show row[p] + _ - _ = row[p]
    omega

/-! _law_points: points are drawn, one behind the other -/
theorem ok_lis (c : List (List Int)) : (D.lst (c.map ti)).ok = true := by
  have h := ok_tis c
  have h2 : (D.lst (c.map ti)).ok = (D.tup (c.map ti)).ok := by first | rfl | (unfold D.ok SeqAt.shaped; rfl)
  rw [h2]
  exact h
theorem any_tis (c : List Int) (L : List (List Int)) : ((L.map ti).any fun z => D.eqv z (ti c)) = decide (c ∈ L) := by
  induction L with
  | nil => simp
  | cons a r ih =>
    rw [List.map_cons, List.any_cons, ih, eqv_ti]
    by_cases h : a = c <;> by_cases h2 : c ∈ r <;> simp [h, h2, eq_comm]
    intro e
    exact h e.symm
abbrev CsP (Mt : Mem) (P : List (List Int)) : Mem := Mt ++ [some (.l (P.map ti))]
theorem cs_get {a b : Int} {Mt : Mem} {P : List (List Int)} : (St a b (CsP Mt P))[Mt.length + 1]? = some (some (.l (P.map ti))) := by
  show (some (MC.l [D.int a, D.int b]) :: (Mt ++ [some (.l (P.map ti))]))[Mt.length + 1]? = _
  rw [List.getElem?_cons_succ]
  exact lastM_get
theorem notin_cs (c : List Int) (P : List (List Int)) (a b : Int) (Mt : Mem) : cmpop .NotIn (.d (ti c)) (.cell (Mt.length + 1)) (St a b (CsP Mt P)) = .ok (.d (.bl (!decide (c ∈ P)))) (St a b (CsP Mt P)) := by
  have l : lstOf (St a b (CsP Mt P)) (.cell (Mt.length + 1)) = some (P.map ti) := by
    unfold lstOf
    dsimp only
    rw [cs_get]
  have e : cmpv .NotIn (St a b (CsP Mt P)) (.d (ti c)) (.cell (Mt.length + 1)) = some (!((P.map ti).any fun z => D.eqv z (ti c))) := by
    have o1 := ok_ti c
    have o2 := ok_lis P
    show (match look (St a b (CsP Mt P)) (.d (ti c)), lstOf (St a b (CsP Mt P)) (.cell (Mt.length + 1)), tupOf (.cell (Mt.length + 1)) with
      | some a, some ys, _ => if a.ok && (D.lst ys).ok && (AV.cell (Mt.length + 1)).plain then some (!ys.any fun z => D.eqv z a) else none
      | some a, none, some ys => if a.scal && ys.all D.scal then some (!ys.any fun z => D.eqv z a) else if a.ok && (D.tup ys).ok && (AV.cell (Mt.length + 1)).plain then some (!ys.any fun z => D.eqv z a) else none
      | _, _, _ => none) = _
    rw [l]
    show (if ((ti c).ok && (D.lst (P.map ti)).ok && true) = true then some (!((P.map ti).any fun z => D.eqv z (ti c))) else none) = _
    rw [o1, o2]
    rfl
  unfold cmpop
  rw [e, any_tis]
theorem idx_cs {P : List (List Int)} {q : Int} (h : 0 ≤ q ∧ q < P.length) (a b : Int) (Mt : Mem) : idx (.cell (Mt.length + 1)) (.d (.int q)) (St a b (CsP Mt P)) = .ok (.d (ti (ownP P q.toNat))) (St a b (CsP Mt P)) := by
  refine idx_cell cs_get (atI_int h.1 ?_)
  rw [List.getElem?_map]
  unfold ownP
  rw [List.getD_eq_getElem?_getD, List.getElem?_eq_getElem (by omega)]
  rfl
def candI (P : List (List Int)) (q : Int) : List (List Int) := ((ownP P q.toNat).filter fun r => !decide ([q, r] ∈ P)).map fun r => [q, r]
def QE : SE := (sIf (sB (sCmp .Gt (sArgs F_law_take (sCons (sVar 0) (sCons (sCon (.int 3)) sNil))) (sCon (.int 0)))) (sBin .Sub (sArgs lenOp (sCons (sVar 2) sNil)) (sCon (.int 1))) (sArgs F_law_take (sCons (sVar 0) (sCons (sArgs lenOp (sCons (sVar 2) sNil)) sNil))))
def IE : SE := (sComp (sSeq (sIdx (sVar 2) (sVar 3))) (.name 5) (sB (sCmp .NotIn (sTup (sCons (sVar 3) (sCons (sVar 5) sNil))) (sVar 2))) (sTup (sCons (sVar 3) (sCons (sVar 5) sNil))) (([("r", 5)] : List (Str × Nat)).map (·.2)))
def AE : SE := (sBin .Add (sLst (sCons (sTup (sCons (sVar 3) sNil)) sNil)) IE)
def PE : SS := (sExpr (sMeth mAppend (sVar 2) (sCons (sIdx (sVar 4) (sArgs F_law_take (sCons (sVar 0) (sCons (sArgs lenOp (sCons (sVar 4) sNil)) sNil)))) sNil)))
abbrev PEnv (Mt : Mem) (many : Int) (o3 o4 o5 : Option AV) : Env := [some (.cell 0), some (.d (.int many)), some (.cell (Mt.length + 1)), o3, o4, o5]
theorem qe_ok {Mt : Mem} {many a b : Int} {P : List (List Int)} {o3 o4 o5 : Option AV} (h0 : 0 < P.length) (h1 : P.length ≤ 1000) :
    ∃ q a' b', QE (PEnv Mt many o3 o4 o5) (St a b (CsP Mt P)) = .ok (.d (.int q)) (St a' b' (CsP Mt P)) ∧ 0 ≤ q ∧ q < P.length := by
  obtain ⟨r1, a1, b1, e1, f1⟩ := take_ok (m := 3) (a := a) (b := b) (Mt := CsP Mt P) (by decide)
  have l0 : ∀ a b, lenOp [.cell (Mt.length + 1)] (St a b (CsP Mt P)) = .ok (.d (.int P.length)) (St a b (CsP Mt P)) := fun a b => by
    rw [len_c, List.length_map]
  by_cases hz : 0 < r1
  · refine ⟨(P.length : Nat) - 1, a1, b1, el_start ?_, by omega, by omega⟩
    unfold QE
    repeat' (first | (wtm_at "mpA") | (with_reducible apply e_call e1) | (with_reducible apply e_call (l0 _ _)) | (wtm_at "mp1"))
    rfl
  · obtain ⟨r2, a2, b2, e2, f2⟩ := take_ok (m := (P.length : Nat)) (a := a1) (b := b1) (Mt := CsP Mt P) (by omega)
    refine ⟨r2, a2, b2, el_start ?_, f2⟩
    unfold QE
    repeat' (first | (wtm_at "mpA") | (with_reducible apply e_call e1) | (with_reducible apply e_call (l0 _ _)) | (with_reducible apply e_call e2) | (wtm_at "mp1"))
    rfl
theorem ie_ok {Mt : Mem} {many a b q : Int} {P : List (List Int)} {o4 o5 : Option AV} (hq : 0 ≤ q ∧ q < P.length) (ho : (ownP P q.toNat).length ≤ 1000) :
    IE (PEnv Mt many (some (.d (.int q))) o4 o5) (St a b (CsP Mt P)) = .ok (.fr ((candI P q).map ti)) (St a b (CsP Mt P)) := by
  refine el_start ?_
  unfold IE
  repeat' (first | (wtm_at "mpA") | (with_reducible apply p_idx (idx_cs hq _ _ _)) | (wtm_at "mp0"))
  refine e_compE (fun d => match d with | .int r => ti [q, r] | d => d) (fun d => match d with | .int r => !decide ([q, r] ∈ P) | _ => false) (fun d hd => ?_) (by rw [List.length_map]; omega) ?_
  · obtain ⟨r, hr, rfl⟩ := List.mem_map.mp hd
    have n0 : cmpop .NotIn (.d (.tup [.int q, .int r])) (.cell (Mt.length + 1)) (St a b (CsP Mt P)) = _ := notin_cs [q, r] P a b Mt
    refine ⟨_, rfl, el_start ?_, fun _ => ⟨.d (ti [q, r]), el_start ?_, rfl⟩⟩
    · repeat' (first | (wtm_at "mpA") | (with_reducible apply p_cmpE n0) | (wtm_at "mp1"))
      rfl
    · repeat' (first | (wtm_at "mpA") | (wtm_at "mp1"))
      rfl
  · have e : (((ownP P q.toNat).map D.int).filter fun d => match d with | .int r => !decide ([q, r] ∈ P) | _ => false).map (fun d => match d with | .int r => ti [q, r] | d => d) = (candI P q).map ti := by
      unfold candI
      rw [List.filter_map, List.map_map, List.map_map]
      rfl
    dsimp only at e ⊢
    rw [e]
theorem ae_ok {Mt : Mem} {many a b q : Int} {P : List (List Int)} {o4 o5 : Option AV} (hq : 0 ≤ q ∧ q < P.length) (ho : (ownP P q.toNat).length ≤ 1000) :
    AE (PEnv Mt many (some (.d (.int q))) o4 o5) (St a b (CsP Mt P)) = .ok (.fr (([q] :: candI P q).map ti)) (St a b (CsP Mt P)) := by
  have e := ie_ok (Mt := Mt) (many := many) (a := a) (b := b) (q := q) (P := P) (o4 := o4) (o5 := o5) hq ho
  have hc : (candI P q).length ≤ 1000 := by
    unfold candI
    rw [List.length_map]
    exact Nat.le_trans (List.length_filter_le _ _) ho
  have ha : ∀ M : Mem, binop .Add (opnd M (.fr [.tup [.int q]])) (opnd M (.fr ((candI P q).map ti))) M = .ok (.fr (([q] :: candI P q).map ti)) M := fun M => add_ff (by rw [List.length_map]; show 1 + _ ≤ _; omega)
  refine el_start ?_
  unfold AE
  repeat' (first | (wtm_at "mpA") | (with_reducible apply gk_t gkc) | (with_reducible apply e_is e) | (with_reducible apply p_bin (ha _)) | (wtm_at "mp1"))
  rfl
theorem pe_ok {Mt : Mem} {many a b q : Int} {P : List (List Int)} {o5 : Option AV} (hq : 0 ≤ q ∧ q < P.length) (hl : P.length ≤ 1000) (ho : (ownP P q.toNat).length ≤ 1000) :
    ∃ c a' b', PE (PEnv Mt many (some (.d (.int q))) (some (.d (.lst (([q] :: candI P q).map ti)))) o5) (St a b (CsP Mt P)) = .ok (.next (PEnv Mt many (some (.d (.int q))) (some (.d (.lst (([q] :: candI P q).map ti)))) o5)) (St a' b' (CsP Mt (P ++ [c]))) ∧ (c = [q] ∨ c ∈ candI P q) := by
  have hx : (P.map ti).length < 1000000 := by rw [List.length_map]; omega
  have hc : ([q] :: candI P q).length ≤ 1001 := by
    unfold candI
    rw [List.length_cons, List.length_map]
    exact Nat.succ_le_succ (Nat.le_trans (List.length_filter_le _ _) ho)
  generalize hL : [q] :: candI P q = L at *
  have hp : 0 < L.length := by rw [← hL]; exact Nat.succ_pos _
  have l5 : ∀ M, lenOp [.d (.lst (L.map ti))] M = .ok (.d (.int L.length)) M := fun M => by
    show Out.ok (AV.d (.int ((L.map ti).length : Nat))) M = _
    rw [List.length_map]
  obtain ⟨r2, a2, b2, e2, f2⟩ := take_ok (m := (L.length : Nat)) (a := a) (b := b) (Mt := CsP Mt P) (by omega)
  have i5 : ∀ M, idx (.d (.lst (L.map ti))) (.d (.int r2)) M = .ok (.d (ti (L[r2.toNat]'(by omega)))) M := fun M => by
    refine idx_lst (atI_int f2.1 ?_)
    rw [List.getElem?_map, List.getElem?_eq_getElem (by omega)]
    rfl
  have hm : L[r2.toNat]'(by omega) ∈ [q] :: candI P q := by
    rw [hL]
    exact List.getElem_mem _
  refine ⟨L[r2.toNat]'(by omega), a2, b2, el_start ?_, List.mem_cons.mp hm⟩
  unfold PE
  unfold CsP at *
  rw [List.map_append]
  repeat' (first | (wtm_at "mpA") | (with_reducible apply e_call (l5 _)) | (with_reducible apply e_call e2) | (with_reducible apply p_idx (i5 _)) | (with_reducible apply gk_t gkc) | (with_reducible refine mapp hx ?_) | (wtm_at "mp1"))
  rfl

/-! the loop of _law_points -/
def PB : SS := (sSeq2 (sAsg 3 false QE)
 (sSeq2 (sAsg 4 false AE)
 (sSeq2 PE
 sSkip)))
theorem qB_t {p : Int} {q : Int} (h : 0 ≤ q ∧ q < p) : qB p (.int q) = true := by
  show (decide (0 ≤ q) && decide (q < p)) = true
  rw [decide_eq_true h.1, decide_eq_true h.2]
  rfl
theorem cand_pts {P : List (List Int)} {q : Int} {c : List Int} (hq : 0 ≤ q ∧ q < P.length) (hP : VPn P) (h : c = [q] ∨ c ∈ candI P q) : ptsB P [ti c] = true := by
  rcases h with rfl | h
  · show (qB P.length (.int q) && true) = true
    rw [qB_t hq]
    rfl
  · unfold candI at h
    obtain ⟨r, hr, rfl⟩ := List.mem_map.mp h
    rw [List.mem_filter] at hr
    have hv := (hP q.toNat).2 r hr.1
    show (((qB P.length (.int q) && qB P.length (.int r)) && decide (r ∈ ownP P q.toNat)) && (!decide ([q, r] ∈ P) && true)) = true
    have h2 : (!decide ([q, r] ∈ P)) = true := hr.2
    rw [h2, decide_eq_true hr.1, qB_t hq, qB_t (show 0 ≤ r ∧ r < (P.length : Nat) by omega)]
    rfl
def cellLen (M : Mem) : Nat := match M.getLast? with
  | some (some (.l xs)) => xs.length
  | _ => 0
theorem cellLen_cs {a b : Int} {Mt : Mem} {P : List (List Int)} : cellLen (St a b (CsP Mt P)) = P.length := by
  unfold cellLen
  have e : (St a b (CsP Mt P)).getLast? = some (some (.l (P.map ti))) := by
    show (some (MC.l [D.int a, D.int b]) :: (Mt ++ [some (MC.l (P.map ti))])).getLast? = _
    rw [← List.cons_append, List.getLast?_append]
    rfl
  rw [e]
  show (P.map ti).length = _
  rw [List.length_map]
theorem vpn_nil : VPn [[]] := fun p => by
  have e : ownP [[]] p = [] := by
    unfold ownP
    cases p with
    | zero => rfl
    | succ p => rfl
  rw [e]
  exact ⟨by decide, fun q h => nomatch h⟩
theorem lpoints_ok {many a b : Int} {Mt : Mem} (hm : 1 ≤ many ∧ many ≤ 60) :
    ∃ t a' b', F_law_points [.cell 0, .d (.int many)] (St a b Mt) = .ok (.d (tis ([] :: t))) (St a' b' Mt) ∧ ptsB [[]] (t.map ti) = true ∧ ((t.length : Nat) : Int) + 1 = many := by
  obtain ⟨env', M', e, t, a', b', o4, o5, o6, f1, f2, rfl, rfl⟩ := while_ex (c := sB (sCmp .Lt (sArgs lenOp (sCons (sVar 2) sNil)) (sVar 1))) (body := PB) (env := PEnv Mt many none none none) (M := St a b (CsP Mt [[]]))
    (fun env M' => ∃ t a' b' o4 o5 o6, ptsB [[]] (t.map ti) = true ∧ ((t.length : Nat) : Int) + 1 ≤ many ∧ env = PEnv Mt many o4 o5 o6 ∧ M' = St a' b' (CsP Mt ([] :: t)))
    (fun env M' => ∃ t a' b' o4 o5 o6, ptsB [[]] (t.map ti) = true ∧ ((t.length : Nat) : Int) + 1 = many ∧ env = PEnv Mt many o4 o5 o6 ∧ M' = St a' b' (CsP Mt ([] :: t)))
    (fun _ M' => 100 - cellLen M') ⟨[], a, b, none, none, none, rfl, by simp; omega, rfl, rfl⟩ (fun env M' h => by
      obtain ⟨t, a', b', o4, o5, o6, f1, f2, rfl, rfl⟩ := h
      have l0 : ∀ a b, lenOp [.cell (Mt.length + 1)] (St a b (CsP Mt ([] :: t))) = .ok (.d (.int (([] :: t).length : Nat))) (St a b (CsP Mt ([] :: t))) := fun a b => by
        rw [len_c, List.length_map]
      by_cases hz : ((t.length : Nat) : Int) + 1 = many
      · refine .inl ⟨el_start ?_, t, a', b', o4, o5, o6, f1, hz, rfl, rfl⟩
        repeat' (first | (wtm_at "mpA") | (with_reducible apply e_call (l0 _ _)) | (wtm_at "mp1"))
        rw [decide_eq_false (by rw [List.length_cons]; omega)]
      · have hP : VPn ([[]] ++ t) := pts_VP t [[]] vpn_nil f1
        have hP : VPn ([] :: t) := hP
        have hlen : (([] : List Int) :: t).length = t.length + 1 := rfl
        obtain ⟨q, a1, b1, e1, hq⟩ := qe_ok (Mt := Mt) (many := many) (a := a') (b := b') (P := [] :: t) (o3 := o4) (o4 := o5) (o5 := o6) (by rw [hlen]; omega) (by rw [hlen]; omega)
        have ho : (ownP ([] :: t) q.toNat).length ≤ 1000 := by have := (hP q.toNat).1; omega
        have e2 := ae_ok (Mt := Mt) (many := many) (a := a1) (b := b1) (q := q) (P := [] :: t) (o4 := o5) (o5 := o6) hq ho
        obtain ⟨c, a2, b2, e3, hc⟩ := pe_ok (Mt := Mt) (many := many) (a := a1) (b := b1) (q := q) (P := [] :: t) (o5 := o6) hq (by rw [hlen]; omega) ho
        refine .inr ⟨el_start ?_, PEnv Mt many (some (.d (.int q))) (some (.d (.lst (([q] :: candI ([] :: t) q).map ti)))) o6, St a2 b2 (CsP Mt ([] :: (t ++ [c]))), el_start ?_, ⟨t ++ [c], a2, b2, _, _, _, ?_, ?_, rfl, rfl⟩, ?_⟩
        · repeat' (first | (wtm_at "mpA") | (with_reducible apply e_call (l0 _ _)) | (wtm_at "mp1"))
          rw [decide_eq_true (by rw [List.length_cons]; omega)]
        · unfold PB
          refine e_seq (e_asg (e_is e1 (a_d (k_next ?_))))
          refine e_seq (e_asg (e_is e2 (a_f (k_next ?_))))
          refine e_seq (e_is e3 (k_next ?_))
          rfl
        · rw [List.map_append]
          show ptsB [[]] (t.map ti ++ [ti c]) = true
          rw [ptsB_snoc c t [[]] f1]
          exact cand_pts hq hP hc
        · rw [List.length_append, List.length_singleton]
          omega
        · show 100 - cellLen (St a2 b2 (CsP Mt ([] :: (t ++ [c])))) < 100 - cellLen (St a' b' (CsP Mt ([] :: t)))
          rw [cellLen_cs, cellLen_cs, List.length_cons, List.length_cons, List.length_append, List.length_singleton]
          omega) (by
      show 100 - cellLen (St a b (CsP Mt [[]])) < 2 ^ 200
      omega)
  refine ⟨t, a', b', ?_, f1, f2⟩
  unfold F_law_points
  refine e_fn rfl ?_
  unfold T_law_points
  refine e_seq ?_
  repeat' (first | (wtm_at "mpA") | (wtm_at "mp1"))
  refine e_is (r := sWhile (sB (sCmp .Lt (sArgs lenOp (sCons (sVar 2) sNil)) (sVar 1))) PB _ _) e ?_
  repeat' (first | (wtm_at "mpA") | (with_reducible apply e_call tup_cS) | (wtm_at "mp1"))
  exact r_dS

/-! ## plain: curvettes, values and excesses -/
def sg (n : Nat) (f : Nat → Int) : Int := ((List.range n).map f).sum
theorem sg_zero (f : Nat → Int) : sg 0 f = 0 := rfl
theorem sg_succ (n : Nat) (f : Nat → Int) : sg (n + 1) f = sg n f + f n := by
  unfold sg
  rw [List.range_succ, List.map_append, List.sum_append]
  simp
theorem sg_congr {n : Nat} {f g : Nat → Int} (h : ∀ i, i < n → f i = g i) : sg n f = sg n g := by
  induction n with
  | zero => rfl
  | succ n ih => rw [sg_succ, sg_succ, ih fun i hi => h i (Nat.lt_succ_of_lt hi), h n (Nat.lt_succ_self n)]
theorem sg_add (n : Nat) (f g : Nat → Int) : sg n (fun i => f i + g i) = sg n f + sg n g := by
  induction n with
  | zero => rfl
  | succ n ih => rw [sg_succ, sg_succ, sg_succ, ih]; omega
theorem sg_sub (n : Nat) (f g : Nat → Int) : sg n (fun i => f i - g i) = sg n f - sg n g := by
  induction n with
  | zero => rfl
  | succ n ih => rw [sg_succ, sg_succ, sg_succ, ih]; omega
theorem sg_mul (n : Nat) (c : Int) (f : Nat → Int) : sg n (fun i => c * f i) = c * sg n f := by
  induction n with
  | zero => rw [sg_zero, sg_zero, Int.mul_zero]
  | succ n ih => rw [sg_succ, sg_succ, ih, Int.mul_add]
theorem sg_nil (n : Nat) : sg n (fun _ => 0) = 0 := by
  induction n with
  | zero => rfl
  | succ n ih => rw [sg_succ, ih]; rfl
theorem sg_upd {n r : Nat} {f g : Nat → Int} {d : Int} (hr : r < n) (h : ∀ i, i < n → i ≠ r → f i = g i) (h2 : f r = g r + d) : sg n f = sg n g + d := by
  induction n with
  | zero => omega
  | succ n ih =>
    rw [sg_succ, sg_succ]
    by_cases e : r = n
    · subst e
      rw [sg_congr (f := f) (g := g) fun i hi => h i (Nat.lt_succ_of_lt hi) (by omega), h2]
      omega
    · rw [ih (by omega) fun i hi => h i (Nat.lt_succ_of_lt hi), h n (Nat.lt_succ_self n) (by omega)]
      omega
theorem sg_one {n r : Nat} (hr : r < n) (x : Int) : sg n (fun i => if i = r then x else 0) = x := by
  have := sg_upd (n := n) (r := r) (f := fun i => if i = r then x else 0) (g := fun _ => 0) (d := x) hr (fun i _ h => if_neg h) (by show (if r = r then x else 0) = 0 + x; rw [if_pos rfl]; omega)
  rw [this, sg_nil]
  omega
theorem sg_comm (n m : Nat) (f : Nat → Nat → Int) : sg n (fun i => sg m (f i)) = sg m (fun j => sg n (fun i => f i j)) := by
  induction n with
  | zero =>
    show 0 = sg m fun j => 0
    rw [sg_nil]
  | succ n ih =>
    rw [sg_succ, ih, ← sg_add]
    refine sg_congr fun j _ => ?_
    rw [sg_succ]
def cnt (j : Nat) (own : List Int) : Int := ((own.filter fun r => decide (r.toNat = j)).length : Nat)
theorem cnt_cons (j : Nat) (r : Int) (own : List Int) : cnt j (r :: own) = (if r.toNat = j then 1 else 0) + cnt j own := by
  unfold cnt
  by_cases h : r.toNat = j
  · rw [List.filter_cons_of_pos (by simpa using h), if_pos h, List.length_cons]
    omega
  · rw [List.filter_cons_of_neg (by simpa using h), if_neg h]
    omega
theorem cnt_none {j : Nat} {own : List Int} (h : ∀ r ∈ own, r.toNat ≠ j) : cnt j own = 0 := by
  unfold cnt
  rw [List.filter_eq_nil_iff.mpr fun r hr => by simpa using h r hr]
  rfl
theorem getD_set {s : List Int} {i j : Nat} {z : Int} (hi : i < s.length) : (s.set i z).getD j 0 = if i = j then z else s.getD j 0 := by
  rw [List.getD_eq_getElem?_getD, List.getD_eq_getElem?_getD, List.getElem?_set]
  by_cases h : i = j
  · subst h
    rw [if_pos rfl, if_pos rfl, if_pos hi]
    rfl
  · rw [if_neg h, if_neg h]
theorem add_get (q : Nat) (j : Nat) : ∀ (own s : List Int), (∀ r ∈ own, 0 ≤ r ∧ r < q) → q < s.length → (own.foldl (addF q) s).getD j 0 = s.getD j 0 + s.getD q 0 * cnt j own
  | [], s, _, _ => by
    show s.getD j 0 = s.getD j 0 + s.getD q 0 * 0
    omega
  | r :: own, s, h, hq => by
    have hr := h r List.mem_cons_self
    have hl : (addF q s r).length = s.length := by unfold addF; rw [List.length_set]
    show (own.foldl (addF q) (addF q s r)).getD j 0 = _
    rw [add_get q j own _ (fun r hr => h r (.tail _ hr)) (by rw [hl]; exact hq), cnt_cons]
    unfold addF
    rw [getD_set (by omega), getD_set (by omega), if_neg (show r.toNat ≠ q by omega)]
    by_cases e : r.toNat = j
    · subst e
      rw [if_pos rfl, if_pos rfl, Int.mul_add, Int.mul_one]
      omega
    · rw [if_neg e, if_neg e, Int.zero_add]
theorem sub_get (m : Int) (j : Nat) : ∀ (own s : List Int), (∀ r ∈ own, 0 ≤ r ∧ r < s.length) → (own.foldl (subF m) s).getD j 0 = s.getD j 0 - m * cnt j own
  | [], s, _ => by
    show s.getD j 0 = s.getD j 0 - m * 0
    omega
  | r :: own, s, h => by
    have hr := h r List.mem_cons_self
    have hl : (subF m s r).length = s.length := by unfold subF; rw [List.length_set]
    show (own.foldl (subF m) (subF m s r)).getD j 0 = _
    rw [sub_get m j own _ (fun r hr => by rw [hl]; exact h r (.tail _ hr)), cnt_cons]
    unfold subF
    rw [getD_set (by omega)]
    by_cases e : r.toNat = j
    · subst e
      rw [if_pos rfl, if_pos rfl, Int.mul_add, Int.mul_one]
      omega
    · rw [if_neg e, if_neg e, Int.zero_add]
theorem ex_get {P : List (List Int)} {row : List Int} (hP : VP P) (j : Nat) : ∀ m, m ≤ row.length → (exN P row m).getD j 0 = row.getD j 0 - sg m (fun q => row.getD q 0 * cnt j (ownP P q))
  | 0, _ => by
    rw [sg_zero]
    show row.getD j 0 = row.getD j 0 - 0
    omega
  | m + 1, h => by
    rw [exN_succ, sg_succ]
    unfold exF
    rw [sub_get _ _ _ _ (fun r hr => by
      have := hP m r hr
      rw [exN_len]
      omega), ex_get hP j m (by omega)]
    omega
theorem cur_get {P : List (List Int)} {p : Nat} (hP : VP P) (hp : p < P.length) : ∀ i, i ≤ p + 1 → (∀ q, p < q → (curM P p i).getD q 0 = 0) ∧
    ∀ j, (curM P p i).getD j 0 = (if j = p then 1 else 0) + sg P.length (fun q => if p < q + i then (curM P p i).getD q 0 * cnt j (ownP P q) else 0)
  | 0, _ => by
    have e : ∀ j, (curM P p 0).getD j 0 = if j = p then 1 else 0 := fun j => by
      show ((List.replicate P.length (0 : Int)).set p 1).getD j 0 = _
      rw [getD_set (by rw [List.length_replicate]; exact hp)]
      by_cases h : p = j
      · subst h
        rw [if_pos rfl, if_pos rfl]
      · rw [if_neg h, if_neg (Ne.symm h), List.getD_eq_getElem?_getD, List.getElem?_replicate]
        split <;> rfl
    refine ⟨fun q h => by rw [e, if_neg (by omega)], fun j => ?_⟩
    rw [e, sg_congr (g := fun _ => 0) fun q hq => by
      by_cases h : p < q + 0
      · rw [if_pos h, e, if_neg (by omega), Int.zero_mul]
      · rw [if_neg h], sg_nil]
    omega
  | i + 1, hi => by
    obtain ⟨h1, h2⟩ := cur_get hP hp i (by omega)
    have e : ∀ j, (curM P p (i + 1)).getD j 0 = (curM P p i).getD j 0 + (curM P p i).getD (p - i) 0 * cnt j (ownP P (p - i)) := fun j => by
      rw [curM_succ]
      unfold curF
      exact add_get _ _ _ _ (hP (p - i)) (by rw [curM_len]; omega)
    have n0 : ∀ j, p - i ≤ j → cnt j (ownP P (p - i)) = 0 := fun j hj => cnt_none fun r hr => by have := hP (p - i) r hr; omega
    have e1 : ∀ j, p - i ≤ j → (curM P p (i + 1)).getD j 0 = (curM P p i).getD j 0 := fun j hj => by rw [e, n0 j hj]; omega
    refine ⟨fun q hq => by rw [e1 q (by omega)]; exact h1 q hq, fun j => ?_⟩
    rw [e, h2 j, Int.add_assoc]
    congr 1
    symm
    refine sg_upd (r := p - i) (by omega) (fun q hq hn => ?_) ?_
    · by_cases hc : p < q + i
      · rw [if_pos hc, if_pos (by omega), e1 q (by omega)]
      · rw [if_neg hc, if_neg (by omega)]
    · rw [if_pos (by omega), if_neg (by omega), e1 _ (Nat.le_refl _)]
      omega
theorem curL_get {P : List (List Int)} {p : Nat} (hP : VP P) (hp : p < P.length) (j : Nat) : (curL P p).getD j 0 = (if j = p then 1 else 0) + sg P.length (fun q => (curL P p).getD q 0 * cnt j (ownP P q)) := by
  have h := (cur_get hP hp (p + 1) (Nat.le_refl _)).2 j
  have e := sg_congr (n := P.length) (f := fun q => if p < q + (p + 1) then (curM P p (p + 1)).getD q 0 * cnt j (ownP P q) else 0) (g := fun q => (curL P p).getD q 0 * cnt j (ownP P q)) fun q _ => by
    rw [if_pos (by omega)]
    rfl
  rw [e] at h
  exact h
theorem ext_getD {a b : List Int} (hl : a.length = b.length) (h : ∀ j, j < a.length → a.getD j 0 = b.getD j 0) : a = b := by
  refine List.ext_getElem hl fun j h1 h2 => ?_
  have := h j h1
  rw [List.getD_eq_getElem?_getD, List.getD_eq_getElem?_getD, List.getElem?_eq_getElem h1, List.getElem?_eq_getElem h2] at this
  exact this
theorem ex_cur {P : List (List Int)} (hP : VP P) {n : Nat} (hn : P.length = n + 1) : exL P (curL P n) = List.replicate n 0 ++ [1] := by
  have hc : (curL P n).length = n + 1 := by rw [← hn]; exact curM_len P n _
  have hl : (exL P (curL P n)).length = n + 1 := by rw [← hc]; exact exN_len P _ _
  refine ext_getD (by rw [hl, List.length_append, List.length_replicate]; rfl) fun j hj => ?_
  have e : exL P (curL P n) = exN P (curL P n) (n + 1) := by
    unfold exL exN
    rw [hc]
  have g := curL_get hP (p := n) (by omega) j
  rw [hn] at g
  rw [e, ex_get hP j (n + 1) (by rw [hc]; exact Nat.le_refl _), List.getD_eq_getElem?_getD (l := List.replicate n 0 ++ [1])]
  by_cases h : j = n
  · subst h
    rw [if_pos rfl] at g
    rw [List.getElem?_append_right (by rw [List.length_replicate]; exact Nat.le_refl _), List.length_replicate, Nat.sub_self]
    show _ = 1
    omega
  · rw [if_neg h] at g
    rw [List.getElem?_append_left (by rw [List.length_replicate]; omega), List.getElem?_replicate, if_pos (by omega)]
    show _ = 0
    omega
theorem own_sum {n : Nat} (V : Nat → Int) : ∀ own : List Int, (∀ r ∈ own, 0 ≤ r ∧ r < n) → (own.map fun r => V r.toNat).sum = sg n (fun j => V j * cnt j own)
  | [], _ => by
    rw [sg_congr (g := fun _ => 0) fun j _ => by rw [show cnt j [] = 0 from rfl, Int.mul_zero], sg_nil]
    rfl
  | r :: own, h => by
    have hr := h r List.mem_cons_self
    rw [List.map_cons, List.sum_cons, own_sum V own fun r hr => h r (.tail _ hr), Int.add_comm]
    symm
    refine sg_upd (r := r.toNat) (by omega) (fun j _ hn => ?_) ?_
    · rw [cnt_cons, if_neg (Ne.symm hn), Int.zero_add]
    · rw [cnt_cons, if_pos rfl, Int.mul_add, Int.mul_one]
      omega
theorem zip_sum : ∀ (a b : List Int), a.length = b.length → ((List.zip a b).map fun p => p.1 * p.2).sum = sg a.length (fun j => a.getD j 0 * b.getD j 0)
  | a, b, hl => by
    have e : (List.zip a b).map (fun p => p.1 * p.2) = (List.range a.length).map fun j => a.getD j 0 * b.getD j 0 := by
      refine List.ext_getElem (by rw [List.length_map, List.length_zip, List.length_map, List.length_range]; omega) fun j h1 h2 => ?_
      rw [List.length_map, List.length_range] at h2
      rw [List.getElem_map, List.getElem_zip, List.getElem_map, List.getElem_range, List.getD_eq_getElem?_getD, List.getD_eq_getElem?_getD, List.getElem?_eq_getElem h2, List.getElem?_eq_getElem (by omega)]
      rfl
    rw [e]
    rfl
theorem meet_cur {P : List (List Int)} {row : List Int} {p : Nat} (hP : VP P) (hl : row.length = P.length) (hp : p < P.length) : meetI row (curL P p) = (valL P row).getD p 0 := by
  have hc : (curL P p).length = P.length := curM_len P p _
  have hV : ∀ j, j < P.length → (valL P row).getD j 0 = row.getD j 0 + sg P.length (fun k => (valL P row).getD k 0 * cnt k (ownP P j)) := fun j hj => by
    have e1 : valL P row = valN P row P.length := by unfold valL valN; rw [hl]
    have e2 := valN_get P row j P.length hj
    rw [← own_sum (n := P.length) (fun k => (valL P row).getD k 0) (ownP P j) fun r hr => by have := hP j r hr; omega, e1, e2]
    congr 2
    refine List.map_congr_left fun q hq => ?_
    have hq := hP j q hq
    exact (valN_pre P row hq.1 hq.2 (Nat.le_of_lt hj)).symm
  have e0 : meetI row (curL P p) = sg P.length (fun j => row.getD j 0 * (curL P p).getD j 0) := by
    unfold meetI
    rw [zip_sum _ _ (by rw [hl, hc]), hl]
  rw [e0, sg_congr (g := fun j => (valL P row).getD j 0 * (curL P p).getD j 0 - sg P.length (fun k => (valL P row).getD k 0 * ((curL P p).getD j 0 * cnt k (ownP P j)))) fun j hj => by
    have h := hV j hj
    have e3 : sg P.length (fun k => (valL P row).getD k 0 * ((curL P p).getD j 0 * cnt k (ownP P j))) = (curL P p).getD j 0 * sg P.length (fun k => (valL P row).getD k 0 * cnt k (ownP P j)) := by
      rw [← sg_mul]
      refine sg_congr fun k _ => ?_
      rw [← Int.mul_assoc, ← Int.mul_assoc, Int.mul_comm ((valL P row).getD k 0)]
    rw [e3]
    have h2 : row.getD j 0 = (valL P row).getD j 0 - sg P.length (fun k => (valL P row).getD k 0 * cnt k (ownP P j)) := by omega
    rw [h2, Int.sub_mul, Int.mul_comm (sg _ _)], sg_sub, sg_comm]
  have e4 : sg P.length (fun k => sg P.length (fun j => (valL P row).getD k 0 * ((curL P p).getD j 0 * cnt k (ownP P j)))) = sg P.length (fun k => (valL P row).getD k 0 * (curL P p).getD k 0) - (valL P row).getD p 0 := by
    have e5 : ∀ k, k < P.length → sg P.length (fun j => (valL P row).getD k 0 * ((curL P p).getD j 0 * cnt k (ownP P j))) = (valL P row).getD k 0 * (curL P p).getD k 0 - (if k = p then (valL P row).getD p 0 else 0) := fun k hk => by
      have h := curL_get hP hp k
      rw [sg_mul]
      have h2 : sg P.length (fun q => (curL P p).getD q 0 * cnt k (ownP P q)) = (curL P p).getD k 0 - (if k = p then 1 else 0) := by omega
      rw [h2, Int.mul_sub]
      by_cases e : k = p
      · subst e
        rw [if_pos rfl, if_pos rfl, Int.mul_one]
      · rw [if_neg e, if_neg e, Int.mul_zero]
    rw [sg_congr e5, sg_sub, sg_one hp]
  rw [e4]
  omega

/-! multiplicities, excesses, steps -/
theorem e_varR {β : Type} {kx : Exc → Mem → Out β} {res : Out β} {k : AV → Mem → Out β} {env : Env} {M : Mem} {i : Nat} {R : AV} (e : env[i]? = some (some R)) (hs : R.settle = R) (h : k R M = res) : el (sVar i env M) k kx = res := by unfold sVar; rw [e]; show k R.settle M = res; rw [hs]; exact h
theorem st_R {β : Type} {res : Out β} {R : AV} {k : AV → Out β} (hs : R.settle = R) (h : k R = res) : stK R k = res := by unfold stK; rw [hs]; exact h
theorem en_eq (P : List (List Int)) : enumL 0 (P.map ti) = (List.range P.length).map fun p => .tup [.int (p : Nat), ti (ownP P p)] := by
  refine List.ext_getElem? fun i => ?_
  by_cases h : i < P.length
  · have e : (P.map ti)[i]? = some (ti (ownP P i)) := by
      rw [List.getElem?_map]
      unfold ownP
      rw [List.getD_eq_getElem?_getD, List.getElem?_eq_getElem h]
      rfl
    rw [enumL_at e, Nat.zero_add, List.getElem?_map, List.getElem?_range h]
    rfl
  · rw [List.getElem?_eq_none (by rw [enumL_len, List.length_map]; omega), List.getElem?_eq_none (by rw [List.length_map, List.length_range]; omega)]
def VecR (R : AV) (v : List Int) (M : Mem) : Prop := ∀ k : Nat, k < v.length → idx R (.d (.int k)) M = .ok (.d (.int (v.getD k 0))) M
theorem cellR_d {R : D} {v : List Int} (h : RowI R v) (M : Mem) : VecR (.d R) v M := fun k hk => h.1 k M hk
theorem cellR_c {c : Nat} {v : List Int} {M : Mem} (h : M[c]? = some (some (.l (v.map .int)))) : VecR (.cell c) v M := fun k hk => by
  refine idx_cell h (atI_nat ?_)
  rw [List.getElem?_map, List.getElem?_eq_getElem hk, List.getD_eq_getElem?_getD, List.getElem?_eq_getElem hk]
  rfl
theorem mf_ok {P : List (List Int)} {v : List Int} {R : AV} {M : Mem} (hs : R.settle = R) (hR : VecR R v M) (hP : VP P) (hl : v.length = P.length) (h60 : P.length ≤ 1000) (ho : ∀ p, (ownP P p).length ≤ 1000) : Fmultiplicities_from [.d (tis P), R] M = .ok (.fr ((mulL P v).map .int)) M := by
  unfold Fmultiplicities_from
  refine e_fn rfl ?_
  unfold initEnv
  rw [List.map_cons, List.map_cons, hs]
  unfold Tmultiplicities_from
  repeat' (first | (wtm_at "mpA") | (wtm_at "mp0"))
  rw [en_eq]
  refine e_compA (φ := fun p : Nat => D.tup [.int (p : Nat), ti (ownP P p)]) (List.range P.length) (fun p => .int (v.getD p 0 - ((ownP P p).map (gI v)).sum)) (fun p hp => ?_) (by rw [List.length_range]; omega) ?_
  · have hp := List.mem_range.mp hp
    have ho1 := ho p
    have i1 := hR p (by omega)
    refine ⟨_, rfl, .d (.int (v.getD p 0 - ((ownP P p).map (gI v)).sum)), el_start ?_, rfl⟩
    repeat' (first | (wtm_at "mpA") | (with_reducible refine e_varR rfl hs ?_) | (with_reducible apply p_idx i1) | (wtm_at "mp0"))
    refine e_compA (φ := D.int) (ownP P p) (fun q => .int (gI v q)) (fun q hq => ?_) (by omega) ?_
    · have hq := hP p q hq
      have i3 : idx R (.d (.int q)) M = .ok (.d (.int (gI v q))) M := by
        have := hR q.toNat (by omega)
        rw [show ((q.toNat : Nat) : Int) = q by omega] at this
        exact this
      refine ⟨_, rfl, .d (.int (gI v q)), el_start ?_, rfl⟩
      repeat' (first | (wtm_at "mpA") | (with_reducible refine e_varR rfl hs ?_) | (with_reducible apply p_idx i3) | (wtm_at "mp1"))
      rfl
    · have e : (ownP P p).map (fun q => D.int (gI v q)) = ((ownP P p).map (gI v)).map .int := by rw [List.map_map]; rfl
      rw [e]
      repeat' (first | (wtm_at "mpA") | (with_reducible apply e_call sum_ints) | (wtm_at "mp1"))
      rfl
  · have e : (List.range P.length).map (fun p => D.int (v.getD p 0 - ((ownP P p).map (gI v)).sum)) = (mulL P v).map .int := by
      unfold mulL
      rw [List.map_map, hl]
      rfl
    rw [e]
    repeat' (first | (wtm_at "mpA") | (wtm_at "mp1"))
    exact r_f
theorem mul_len {P : List (List Int)} {v : List Int} : (mulL P v).length = v.length := by
  unfold mulL
  rw [List.length_map, List.length_range]
theorem ef_ok {P : List (List Int)} {v : List Int} {R : AV} {M : Mem} (hs : R.settle = R) (hR : VecR R v M) (hP : VP P) (hl : v.length = P.length) (h60 : P.length ≤ 1000) (ho : ∀ p, (ownP P p).length ≤ 1000) : Fexcesses_from [.d (tis P), R] M = .ok (.fr ((exL P (mulL P v)).map .int)) M := by
  have h1 := mf_ok hs hR hP hl h60 ho
  have h2 : ∀ M, Fexcess_list [.d (tis P), .d (.lst ((mulL P v).map .int))] M = .ok (.fr ((exL P (mulL P v)).map .int)) M := fun M => exl_ok (row := mulL P v) hP (by rw [mul_len]; omega)
  unfold Fexcesses_from
  refine e_fn rfl ?_
  unfold initEnv
  rw [List.map_cons, List.map_cons, hs]
  unfold Texcesses_from
  repeat' (first | (wtm_at "mpA") | (with_reducible refine e_varR rfl hs ?_) | (with_reducible refine st_R hs ?_) | (with_reducible apply e_call h1) | (with_reducible apply e_call (h2 _)) | (wtm_at "mp1"))
  exact r_f
theorem om_ok {P : List (List Int)} (hP : VP P) (h60 : P.length ≤ 1000) {M : Mem} : ∃ g : List Int, Fown_meetings [.d (tis P)] M = .ok (.fr (g.map .int)) M := by
  have mq : ∀ M, binop .Mult (opnd M (.fr [.int 1])) (opnd M (.d (.int (((P.map ti).length : Nat) : Int)))) M = .ok (.fr ((List.replicate P.length 1).map D.int)) M := fun M => by
    rw [mul_l1 (by omega) (by rw [List.length_map]; omega), List.length_map, Int.toNat_natCast, List.map_replicate]
  obtain ⟨env', M', e, s, o2, o3, hs, rfl, rfl⟩ := for_dep (body := (sSeq2 (sFor (sSeq (sVar 2)) (.name 3) (sSeq2 (sAugI .Add (sVar 1) (sVar 3) (sCon (.int 1))) sSkip)) sSkip)) (tg := .name 2) (deps := [])
    (I := fun env M' => ∃ (s : List Int) (o2 o3 : Option AV), s.length = P.length ∧ env = [some (.d (tis P)), some (.cell M.length), o2, o3] ∧ M' = M ++ [some (.l (s.map .int))]) (fun _ _ _ => rfl) (P.map ti) (fun d hd env M' h => by
      obtain ⟨s, o2, o3, hs, rfl, rfl⟩ := h
      obtain ⟨own, ho, rfl⟩ := List.mem_map.mp hd
      obtain ⟨i, hi, rfl⟩ := List.getElem_of_mem ho
      have ei : ownP P i = P[i] := by
        unfold ownP
        rw [List.getD_eq_getElem?_getD, List.getElem?_eq_getElem hi]
        rfl
      obtain ⟨env', M', e, t, o3, ht, rfl, rfl⟩ := for_dep (body := (sSeq2 (sAugI .Add (sVar 1) (sVar 3) (sCon (.int 1))) sSkip)) (tg := .name 3) (deps := [])
        (I := fun env M' => ∃ (t : List Int) (o3 : Option AV), t.length = P.length ∧ env = [some (.d (tis P)), some (.cell M.length), some (.d (ti P[i])), o3] ∧ M' = M ++ [some (.l (t.map .int))]) (fun _ _ _ => rfl) (P[i].map D.int) (fun d hd env M' h => by
          obtain ⟨t, o3, ht, rfl, rfl⟩ := h
          obtain ⟨q, hq, rfl⟩ := List.mem_map.mp hd
          rw [← ei] at hq
          have hq := hP i q hq
          have e : sAugI .Add (sVar 1) (sVar 3) (sCon (.int 1)) [some (.d (tis P)), some (.cell M.length), some (.d (ti P[i])), some (.d (.int q))] (M ++ [some (.l (t.map D.int))]) = .ok (.next [some (.d (tis P)), some (.cell M.length), some (.d (ti P[i])), some (.d (.int q))]) ((M ++ [some (MC.l (t.map D.int))]).set M.length (some (MC.l ((t.map D.int).set q.toNat (.int (t.getD q.toNat 0 + 1)))))) :=
            augI_eq (x := t.getD q.toNat 0) (xs := t.map D.int) rfl rfl rfl last_get ⟨hq.1, by rw [List.length_map]; omega⟩ (by rw [List.getElem?_map, List.getD_eq_getElem?_getD, List.getElem?_eq_getElem (by omega)]; rfl) rfl
          rw [last_set, set_map] at e
          exact ⟨_, _, _, rfl, el_start (e_stmt e (e_skip rfl)), _, _, by rw [List.length_set]; exact ht, rfl, rfl⟩) [some (.d (tis P)), some (.cell M.length), some (.d (ti P[i])), o3] (M ++ [some (.l (s.map .int))]) ⟨s, o3, hs, rfl, rfl⟩
      refine ⟨_, [some (.d (tis P)), some (.cell M.length), some (.d (ti P[i])), o3], M ++ [some (.l (t.map .int))], rfl, el_start ?_, t, _, _, ht, rfl, rfl⟩
      repeat' (first | (wtm_at "mpA") | (wtm_at "mp0"))
      refine (congrArg (fun z => el z _ _) (e : forL _ _ _ _ _ _ = _)).trans ?_
      repeat' (first | (wtm_at "mpA") | (wtm_at "mp1"))
      rfl) [some (.d (tis P)), some (.cell M.length), none, none] (M ++ [some (.l ((List.replicate P.length 1).map .int))]) ⟨_, none, none, List.length_replicate, rfl, rfl⟩
  refine ⟨s, ?_⟩
  unfold Fown_meetings
  refine e_fn rfl ?_
  unfold Town_meetings
  repeat' (first | (wtm_at "mpA") | (with_reducible apply p_bin (mq _)) | (wtm_at "mp0"))
  refine (congrArg (fun z => el z _ _) (e : forL _ _ _ _ _ _ = _)).trans ?_
  exact r_c
theorem w_ret {c : SB} {body : SS} {env : Env} {M M' : Mem} {v : AV} (h1 : c env M = .ok true M) (h2 : body env M = .ok (.ret v) M') : sWhile c body env M = .ok (.ret v) M' := by
  have hb : 0 < bigF := Nat.lt_of_lt_of_le (by decide) big_le
  unfold sWhile
  obtain ⟨n, hn⟩ : ∃ n, bigF = n + 1 := ⟨bigF - 1, by omega⟩
  rw [hn]
  unfold whileF
  rw [h1]
  simp only [Out.bind, if_true, h2]

/-! the way that the steps end at once; the number -/
def SB2 : SS := (sSeq2 (sAsg 5 false (sArgs Fexcesses_from (sCons (sVar 0) (sCons (sVar 2) sNil))))
 (sSeq2 (sAsg 6 false (sComp (sRng (sCons (sArgs lenOp (sCons (sVar 0) sNil)) sNil)) (.name 8) (sB (sCmp .Lt (sIdx (sVar 5) (sVar 8)) (sCon (.int 0)))) (sVar 8) (([("p", 8)] : List (Str × Nat)).map (·.2))))
 (sSeq2 (sIfS (sB (sCmp .Eq (sArgs lenOp (sCons (sVar 6) sNil)) (sCon (.int 0))))
 (sSeq2 (sRet (sTup (sCons (sVar 4) (sCons (sVar 2) sNil))))
 sSkip)
 sSkip)
 (sSeq2 (sAsg 7 false (sNeg (sBin .FloorDiv (sIdx (sVar 5) (sIdx (sVar 6) (sCon (.int 0)))) (sIdx (sVar 3) (sIdx (sVar 6) (sCon (.int 0)))))))
 (sSeq2 (sAugI .Add (sVar 2) (sIdx (sVar 6) (sCon (.int 0))) (sVar 7))
 (sSeq2 (sExpr (sMeth mAppend (sVar 4) (sCons (sTup (sCons (sIdx (sVar 6) (sCon (.int 0))) (sCons (sVar 7) sNil))) sNil)))
 sSkip))))))
theorem r_dA {M X : Mem} {d : D} : endK M.length (.ret (.d d)) (M ++ X) = .ok (.d d) M := by
  show Out.ok (AV.d d) ((M ++ X).take M.length) = _
  rw [List.take_left]
theorem tup_two {β : Type} {res : Out β} {k : AV → Mem → Out β} {M : Mem} {xs ys : List D} (h : k (.d (.tup [.lst ys, .lst xs])) (M ++ [none] ++ [none]) = res) : tupK [.cell (M ++ [some (MC.l xs)]).length, .cell M.length] (M ++ [some (MC.l xs)] ++ [some (MC.l ys)]) (fun xs => .d (.tup xs)) k = res := by
  have g1 : (M ++ [some (MC.l xs)] ++ [some (MC.l ys)])[(M ++ [some (MC.l xs)]).length]? = some (some (.l ys)) := last_get
  have g2 : (M ++ [some (MC.l xs)] ++ [some (MC.l ys)]).set (M ++ [some (MC.l xs)]).length none = M ++ [some (MC.l xs)] ++ [none] := by
    rw [List.set_append_right _ _ (Nat.le_refl _), Nat.sub_self]
    rfl
  have g3 : (M ++ [some (MC.l xs)] ++ [none])[M.length]? = some (some (.l xs)) := by
    rw [List.getElem?_append_left (by rw [List.length_append]; exact Nat.lt_succ_self _)]
    exact last_get
  have g4 : (M ++ [some (MC.l xs)] ++ [none]).set M.length none = M ++ [none] ++ [none] := by
    rw [List.append_assoc, List.set_append_right _ _ (Nat.le_refl _), Nat.sub_self, List.append_assoc]
    rfl
  have e1 : keepD (.cell (M ++ [some (MC.l xs)]).length) (M ++ [some (MC.l xs)] ++ [some (MC.l ys)]) = some (.lst ys, M ++ [some (MC.l xs)] ++ [none]) := by
    unfold keepD
    simp only [g1, g2]
  have e2 : keepD (.cell M.length) (M ++ [some (MC.l xs)] ++ [none]) = some (.lst xs, M ++ [none] ++ [none]) := by
    unfold keepD
    simp only [g3, g4]
  unfold tupK keepDs
  simp only [e1]
  unfold keepDs
  simp only [e2]
  unfold keepDs
  exact (if_pos (show 2 ≤ sizeLine by decide)).trans h
theorem steps_ok {P : List (List Int)} {v : List Int} (hP : VP P) (hl : v.length = P.length) (h60 : P.length ≤ 1000) (ho : ∀ p, (ownP P p).length ≤ 1000) (hx : ∀ k, k < P.length → 0 ≤ (exL P (mulL P v)).getD k 0) {M : Mem} : Fsteps_from [.d (tis P), .d (ti v)] M = .ok (.d (.tup [.lst [], .lst (v.map .int)])) M := by
  obtain ⟨g, hg⟩ := om_ok (P := P) hP h60 (M := M ++ [some (.l (v.map .int))])
  have hlx : (exL P (mulL P v)).length = P.length := by
    have := exN_len P (mulL P v) (mulL P v).length
    rw [mul_len, hl] at this
    unfold exL
    rw [mul_len, hl]
    exact this
  have hc : (M ++ [some (MC.l (v.map .int))] ++ [some (MC.l [])])[M.length]? = some (some (.l (v.map .int))) := by
    rw [List.getElem?_append_left (by rw [List.length_append]; exact Nat.lt_succ_self _)]
    exact last_get
  have he : ∀ M' : Mem, M' = M ++ [some (MC.l (v.map .int))] ++ [some (MC.l [])] → Fexcesses_from [.d (tis P), .cell M.length] M' = .ok (.fr ((exL P (mulL P v)).map .int)) M' := fun M' e => by
    subst e
    exact ef_ok (P := P) (v := v) (R := .cell M.length) rfl (cellR_c hc) hP hl h60 ho
  have e : sWhile (sB (sCon (.bl true))) SB2 [some (.d (tis P)), some (.d (ti v)), some (.cell M.length), some (.d (.lst (g.map .int))), some (.cell (M ++ [some (MC.l (v.map .int))]).length), none, none, none, none] (M ++ [some (MC.l (v.map .int))] ++ [some (MC.l [])]) = .ok (.ret (.d (.tup [.lst [], .lst (v.map .int)]))) (M ++ [none] ++ [none]) := by
    refine w_ret rfl (el_start ?_)
    unfold SB2
    have e1 : (sArgs Fexcesses_from (sCons (sVar 0) (sCons (sVar 2) sNil))) [some (.d (tis P)), some (.d (ti v)), some (.cell M.length), some (.d (.lst (g.map .int))), some (.cell (M ++ [some (MC.l (v.map .int))]).length), none, none, none, none] (M ++ [some (MC.l (v.map .int))] ++ [some (MC.l [])]) = .ok (.fr ((exL P (mulL P v)).map .int)) (M ++ [some (MC.l (v.map .int))] ++ [some (MC.l [])]) := he _ rfl
    refine e_seq (e_asg (e_is e1 (a_f (k_next ?_))))
    have hlr : (P.map ti).length ≤ 1000000 := by rw [List.length_map]; omega
    repeat' (first | (wtm_at "mpA") | (wtm_at "mp0"))
    refine e_compRF (fun j => .int (j : Nat)) (fun _ => false) (by rw [List.length_map]; omega) (fun j hj => ?_) ?_
    · rw [List.length_map] at hj
      have i1 : ∀ M, idx (.d (.lst ((exL P (mulL P v)).map .int))) (.d (.int (j : Nat))) M = .ok (.d (.int ((exL P (mulL P v)).getD j 0))) M := fun M => by
        rw [idx_li (by omega) (by omega), Int.toNat_natCast]
      have := hx j hj
      refine ⟨_, rfl, el_start ?_, fun h => by cases h⟩
      repeat' (first | (wtm_at "mpA") | (with_reducible apply p_idx (i1 _)) | (wtm_at "mp1"))
      rw [decide_eq_false (by omega)]
    · have e0 : ((List.range (P.map ti).length).filter fun _ => false) = [] := List.filter_eq_nil_iff.mpr fun _ _ => by simp
      rw [e0]
      repeat' (first | (wtm_at "mpA") | (with_reducible refine tup_two ?_) | (wtm_at "mp1"))
      rfl
  unfold Fsteps_from
  refine e_fn rfl ?_
  unfold Tsteps_from
  repeat' (first | (wtm_at "mpA") | (with_reducible apply e_call lst_tup) | (with_reducible apply e_call hg) | (wtm_at "mp0"))
  refine e_is (r := sWhile (sB (sCon (.bl true))) SB2 _ _) e ?_
  show endK M.length (.ret (.d (.tup [.lst [], .lst (v.map .int)]))) (M ++ [none] ++ [none]) = _
  rw [List.append_assoc]
  exact r_dA
def numI (m : List Int) : Int := (m.map fun x => x * (x + 1) / 2).sum
theorem mul_s {i j : Int} (h1 : -1000000 ≤ i) (h2 : i ≤ 1000000) : mulOk i j = true := by
  unfold mulOk
  have : i.natAbs < 2 ^ 64 := by omega
  simp [this]

/-! what the four askings answer -/
theorem min_ti {c : List Int} (h : 0 < c.length) {M : Mem} : minOp2 [.d (ti c)] M = .ok (.d (.int (minI c))) M := by
  cases c with
  | nil => cases h
  | cons x r => exact min_tup
theorem min_li {c : List Int} (h : 0 < c.length) {M : Mem} : minOp2 [.d (.lst (c.map .int))] M = .ok (.d (.int (minI c))) M := by
  cases c with
  | nil => cases h
  | cons x r => exact min_lst
theorem minI_nn {c : List Int} (h : ∀ x ∈ c, 0 ≤ x) : 0 ≤ minI c := by
  cases c with
  | nil => exact Int.le_refl _
  | cons x r => exact h _ (minL_mem r x)
theorem minI_le {c : List Int} {x : Int} (h : x ∈ c) : minI c ≤ x := by
  cases c with
  | nil => cases h
  | cons y r =>
    rcases List.mem_cons.mp h with rfl | h
    · exact (minL_le r x).1
    · exact (minL_le r y).2 x h
/-- the points are good, and so are the facts about them -/
structure PD (P : List (List Int)) : Prop where
  vp : VP P
  pos : 0 < P.length
  le : P.length ≤ 60
  own : ∀ p, (ownP P p).length ≤ 1000
  good : Good P
/-- the row is one of values -/
structure VD (P : List (List Int)) (v : List Int) : Prop where
  len : v.length = P.length
  wb : WB v
  nn : ∀ x ∈ v, 0 ≤ x
theorem VD.gw {P : List (List Int)} {v : List Int} (p : PD P) (d : VD P v) : GoodW P v := goodW_ok (by have := p.le; omega) d.len d.wb
abbrev Mal : Exc := ⟨"Malformed", []⟩
abbrev RefX : Exc := ⟨"Refused", [("reason", .str "excess")]⟩
section
variable {P : List (List Int)} {v w : List Int} {M : Mem}
theorem cv_ok (p : PD P) (d : VD P v) : Fcheck_values [.d (tis P), .d (ti v)] M = .ok (.d .non) M := by
  have h := cw_ok p.good (d.gw p)
  have h2 : ∀ M, minOp2 [.d (ti v)] M = _ := fun M => min_ti (by rw [d.len]; exact p.pos) (M := M)
  have h3 := minI_nn d.nn
  unfold Fcheck_values
  refine e_fn rfl ?_
  unfold Tcheck_values
  repeat' (first | (wtm_at "mpA") | (with_reducible apply e_call (h _)) | (with_reducible apply e_call (h2 _)) | (wtm_at "mp1"))
theorem cv_neg (p : PD P) (hl : v.length = P.length) (hw : WB v) (hn : ∃ x ∈ v, x < 0) : Fcheck_values [.d (tis P), .d (ti v)] M = .exc Mal M := by
  have h := cw_ok p.good (goodW_ok (by have := p.le; omega) hl hw)
  have h2 : ∀ M, minOp2 [.d (ti v)] M = _ := fun M => min_ti (by rw [hl]; exact p.pos) (M := M)
  obtain ⟨x, hx, h3⟩ := hn
  have h3 := minI_le hx
  unfold Fcheck_values
  refine e_fn rfl ?_
  unfold Tcheck_values
  repeat' (first | (wtm_at "mpA") | (with_reducible apply e_call (h _)) | (with_reducible apply e_call (h2 _)) | (wtm_at "mp1"))
theorem cv_x {q r : D} (h : ∀ M, Fcheck_weighted [.d q, .d r] M = .exc Mal M) : Fcheck_values [.d q, .d r] M = .exc Mal M := by
  unfold Fcheck_values
  refine e_fn rfl ?_
  unfold Tcheck_values
  repeat' (first | (wtm_at "mpA") | (with_reducible apply e_callX (h _)) | (wtm_at "mp1"))
/-- the excesses of values -/
def exV (P : List (List Int)) (v : List Int) : List Int := exL P (mulL P v)
theorem exV_len : (exV P v).length = v.length := by
  have := exN_len P (mulL P v) (mulL P v).length
  unfold exV exL
  rw [← mul_len (P := P) (v := v)]
  exact this
theorem ex_ti (p : PD P) (d : VD P v) : ∀ M, Fexcesses_from [.d (tis P), .d (ti v)] M = .ok (.fr ((exV P v).map .int)) M := fun M => ef_ok rfl (cellR_d (row_t v) M) p.vp d.len (by have := p.le; omega) p.own
theorem mu_ti (p : PD P) (d : VD P v) : ∀ M, Fmultiplicities_from [.d (tis P), .d (ti v)] M = .ok (.fr ((mulL P v).map .int)) M := fun M => mf_ok rfl (cellR_d (row_t v) M) p.vp d.len (by have := p.le; omega) p.own
end

/-! the askings -/
section
variable {P : List (List Int)} {v w : List Int} {M : Mem}
theorem ic_ok (p : PD P) (d : VD P v) (hx : ∀ x ∈ exV P v, 0 ≤ x) (hb : ∀ x ∈ mulL P v, -1000000 ≤ x ∧ x ≤ 1000000) : Fideal_codimension [.d (tis P), .d (ti v)] M = .ok (.d (.int (numI (mulL P v)))) M := by
  have h : ∀ M, Fcheck_values [.d (tis P), .d (ti v)] M = _ := fun M => cv_ok p d (M := M)
  have h1 : ∀ M, Fsteps_from [.d (tis P), .d (ti v)] M = _ := fun M => steps_ok p.vp d.len (by have := p.le; omega) p.own (fun k hk => by
    have hl : (exV P v).length = P.length := by rw [exV_len, d.len]
    show 0 ≤ (exV P v).getD k 0
    rw [List.getD_eq_getElem?_getD, List.getElem?_eq_getElem (by omega)]
    exact hx _ (List.getElem_mem _)) (M := M)
  have h2 : ∀ M, Fmultiplicities_from [.d (tis P), .d (.lst (v.map .int))] M = .ok (.fr ((mulL P v).map .int)) M := fun M => mf_ok rfl (cellR_d (row_l v) M) p.vp d.len (by have := p.le; omega) p.own
  have h3 : ∀ M, Fcodimension_of [.d (tis P), .d (.lst (v.map .int))] M = .ok (.d (.int (numI (mulL P v)))) M := fun M => by
    have hl : (mulL P v).length ≤ 1000 := by rw [mul_len, d.len]; have := p.le; omega
    unfold Fcodimension_of
    refine e_fn rfl ?_
    unfold Tcodimension_of
    repeat' (first | (wtm_at "mpA") | (with_reducible apply e_call (h2 _)) | (wtm_at "mp0"))
    refine e_compA (φ := D.int) (mulL P v) (fun x => .int (x * (x + 1) / 2)) (fun x hx => ?_) (by omega) ?_
    · refine ⟨_, rfl, .d (.int (x * (x + 1) / 2)), el_start ?_, rfl⟩
      have hb := hb x hx
      have mo : mulOk x (x + 1) = true := mul_s hb.1 hb.2
      repeat' (first | (wtm_at "mpA") | (with_reducible refine p_mul mo ?_) | (with_reducible refine p_div (by decide) (div_s (by decide) (by decide)) ?_) | (wtm_at "mp1"))
      rfl
    · have e : (mulL P v).map (fun x => D.int (x * (x + 1) / 2)) = ((mulL P v).map fun x => x * (x + 1) / 2).map .int := by rw [List.map_map]; rfl
      rw [e]
      repeat' (first | (wtm_at "mpA") | (with_reducible apply e_call sum_ints) | (wtm_at "mp1"))
      try exact r_d
  have i1 : ∀ M, idx (.d (.tup [.lst [], .lst (v.map D.int)])) (.d (.int 1)) M = .ok (.d (.lst (v.map .int))) M := fun M => rfl
  unfold Fideal_codimension
  refine e_fn rfl ?_
  unfold Tideal_codimension
  repeat' (first | (wtm_at "mpA") | (with_reducible apply e_call (h _)) | (with_reducible apply e_call (h1 _)) | (with_reducible apply p_idx (i1 _)) | (with_reducible apply e_call (h3 _)) | (wtm_at "mp1"))
end

/-! the law's own curvettes and rows -/
/-- where the walk of the law's curvette stands: the last places are right, those ahead are 0 -/
def lcS (P : List (List Int)) (p i : Nat) : List Int := (List.range P.length).map fun j => if p ≤ j + i then (curL P p).getD j 0 else 0
theorem lcS_len {P : List (List Int)} {p i : Nat} : (lcS P p i).length = P.length := by
  unfold lcS
  rw [List.length_map, List.length_range]
theorem lcS_get {P : List (List Int)} {p i j : Nat} (hj : j < P.length) : (lcS P p i).getD j 0 = if p ≤ j + i then (curL P p).getD j 0 else 0 := by
  unfold lcS
  rw [List.getD_eq_getElem?_getD, List.getElem?_map, List.getElem?_range hj]
  rfl
theorem curL_hi {P : List (List Int)} {p q : Nat} (hP : VP P) (hp : p < P.length) (h : p < q) : (curL P p).getD q 0 = 0 := (cur_get hP hp (p + 1) (Nat.le_refl _)).1 q h
theorem curL_p {P : List (List Int)} {p : Nat} (hP : VP P) (hp : p < P.length) : (curL P p).getD p 0 = 1 := by
  have h := curL_get hP hp p
  rw [if_pos rfl, sg_congr (g := fun _ => 0) fun q hq => by
    by_cases h : p < q
    · rw [curL_hi hP hp h, Int.zero_mul]
    · rw [cnt_none fun r hr => by have := hP q r hr; omega, Int.mul_zero], sg_nil] at h
  omega
theorem sum_filter (f : Nat → Int) (p : Nat → Bool) : ∀ l : List Nat, ((l.filter p).map f).sum = (l.map fun i => if p i = true then f i else 0).sum
  | [] => rfl
  | a :: l => by
    rw [List.map_cons, List.sum_cons, ← sum_filter f p l]
    by_cases h : p a = true
    · rw [List.filter_cons_of_pos h, if_pos h, List.map_cons, List.sum_cons]
    · rw [List.filter_cons_of_neg h, if_neg h]
      omega
theorem sg_split (a : Nat) (f : Nat → Int) : ∀ m, sg (a + m) f = sg a f + sg m (fun i => f (a + i))
  | 0 => by rw [sg_zero, Nat.add_zero]; omega
  | m + 1 => by rw [← Nat.add_assoc, sg_succ, sg_succ, sg_split a f m]; omega
theorem sg_shift {n a m : Nat} {f : Nat → Int} (hn : a + m ≤ n) (h0 : ∀ i, i < n → (i < a ∨ a + m ≤ i) → f i = 0) : sg n f = sg m (fun i => f (a + i)) := by
  obtain ⟨k, rfl⟩ := Nat.exists_eq_add_of_le hn
  rw [sg_split (a + m) f k, sg_split a f m, sg_congr (n := a) (g := fun _ => 0) fun i hi => h0 i (by omega) (.inl hi), sg_nil, sg_congr (n := k) (g := fun _ => 0) fun i hi => h0 (a + m + i) (by omega) (.inr (by omega)), sg_nil]
  omega
/-- no point is named twice by another -/
def ND (P : List (List Int)) : Prop := ∀ p, (ownP P p).Nodup
theorem cnt_nd {j : Nat} {own : List Int} (h : own.Nodup) (h0 : ∀ r ∈ own, 0 ≤ r) : cnt j own = if decide ((j : Int) ∈ own) = true then 1 else 0 := by
  induction own with
  | nil => rfl
  | cons a r ih =>
    rw [List.nodup_cons] at h
    have h0a := h0 a List.mem_cons_self
    rw [cnt_cons, ih h.2 fun r hr => h0 r (.tail _ hr)]
    by_cases e : a.toNat = j
    · have e2 : (j : Int) = a := by omega
      rw [if_pos e, e2, decide_eq_false h.1, decide_eq_true List.mem_cons_self]
      rfl
    · rw [if_neg e]
      have e2 : ¬ (j : Int) = a := by omega
      by_cases h3 : (j : Int) ∈ r
      · rw [decide_eq_true h3, decide_eq_true (List.mem_cons_of_mem _ h3)]
        rfl
      · rw [decide_eq_false h3, decide_eq_false (by rw [List.mem_cons]; intro h4; rcases h4 with h4 | h4; exact e2 h4; exact h3 h4)]
        rfl

theorem lc_step {P : List (List Int)} {p i : Nat} (hP : VP P) (hN : ND P) (hp : p < P.length) (hi : i < p) :
    ((((List.range (i + 1)).filter fun j => decide (((p - 1 - i : Nat) : Int) ∈ ownP P (p - i + j))).map fun j => (lcS P p i).getD (p - i + j) 0).sum) = (curL P p).getD (p - 1 - i) 0 := by
  rw [sum_filter]
  have h := curL_get hP hp (p - 1 - i)
  rw [if_neg (by omega), Int.zero_add] at h
  rw [h]
  rw [sg_shift (a := p - i) (m := i + 1) (by omega) fun q hq hr => by
    rcases hr with hr | hr
    · rw [cnt_none fun r hr2 => by have := hP q r hr2; omega, Int.mul_zero]
    · rw [curL_hi hP hp (by omega), Int.zero_mul]]
  show _ = ((List.range (i + 1)).map _).sum
  congr 1
  refine List.map_congr_left fun j hj => ?_
  have hj := List.mem_range.mp hj
  rw [lcS_get (by omega), if_pos (show p ≤ p - i + j + i by omega), cnt_nd (hN _) fun r hr => (hP _ r hr).1]
  by_cases h2 : ((p - 1 - i : Nat) : Int) ∈ ownP P (p - i + j)
  · rw [decide_eq_true h2, if_pos rfl, if_pos rfl, Int.mul_one]
  · rw [decide_eq_false h2, if_neg (by decide), if_neg (by decide), Int.mul_zero]
theorem lcS_set {P : List (List Int)} {p i : Nat} (hp : p < P.length) (hi : i < p) : (lcS P p i).set (p - 1 - i) ((curL P p).getD (p - 1 - i) 0) = lcS P p (i + 1) := by
  refine ext_getD (by rw [List.length_set, lcS_len, lcS_len]) fun j hj => ?_
  rw [List.length_set, lcS_len] at hj
  rw [getD_set (by rw [lcS_len]; omega), lcS_get hj, lcS_get hj]
  by_cases h : p - 1 - i = j
  · subst h
    rw [if_pos rfl, if_pos (by omega)]
  · rw [if_neg h]
    by_cases h2 : p ≤ j + i
    · rw [if_pos h2, if_pos (by omega)]
    · rw [if_neg h2, if_neg (by omega)]
theorem lcS_zero {P : List (List Int)} {p : Nat} (hP : VP P) (hp : p < P.length) : (List.replicate P.length (0 : Int)).set p 1 = lcS P p 0 := by
  refine ext_getD (by rw [List.length_set, List.length_replicate, lcS_len]) fun j hj => ?_
  rw [List.length_set, List.length_replicate] at hj
  rw [getD_set (by rw [List.length_replicate]; exact hp), lcS_get hj, List.getD_eq_getElem?_getD (l := List.replicate _ _), List.getElem?_replicate, if_pos hj]
  by_cases h : p = j
  · subst h
    rw [if_pos rfl, if_pos (by omega), curL_p hP hp]
  · rw [if_neg h]
    by_cases h2 : p ≤ j + 0
    · rw [if_pos h2, curL_hi hP hp (by omega)]
      rfl
    · rw [if_neg h2]
      rfl
theorem lcS_end {P : List (List Int)} {p : Nat} : lcS P p p = curL P p := by
  have hc : (curL P p).length = P.length := curM_len P p _
  refine ext_getD (by rw [lcS_len, hc]) fun j hj => ?_
  rw [lcS_len] at hj
  rw [lcS_get hj, if_pos (by omega)]

/-! sums of curvettes -/
def mdF (P : List (List Int)) (counts : List Int) (m : List Int) (p : Nat) : List Int := (List.range P.length).map fun q => m.getD q 0 + counts.getD p 0 * (curL P p).getD q 0
def mdN (P : List (List Int)) (counts : List Int) (n : Nat) : List Int := (List.range n).foldl (mdF P counts) (List.replicate P.length 0)
def mdL (P : List (List Int)) (counts : List Int) : List Int := mdN P counts P.length
theorem mdN_succ (P : List (List Int)) (counts : List Int) (n : Nat) : mdN P counts (n + 1) = mdF P counts (mdN P counts n) n := by
  unfold mdN
  rw [List.range_succ, List.foldl_append]
  rfl
theorem mdN_len (P : List (List Int)) (counts : List Int) : ∀ n, (mdN P counts n).length = P.length
  | 0 => List.length_replicate
  | n + 1 => by
    rw [mdN_succ]
    unfold mdF
    rw [List.length_map, List.length_range]
theorem mdN_get (P : List (List Int)) (counts : List Int) {q : Nat} (hq : q < P.length) : ∀ n, (mdN P counts n).getD q 0 = sg n fun p => counts.getD p 0 * (curL P p).getD q 0
  | 0 => by
    show (List.replicate P.length (0 : Int)).getD q 0 = 0
    rw [List.getD_eq_getElem?_getD, List.getElem?_replicate, if_pos hq]
    rfl
  | n + 1 => by
    rw [mdN_succ, sg_succ, ← mdN_get P counts hq n]
    unfold mdF
    rw [List.getD_eq_getElem?_getD, List.getElem?_map, List.getElem?_range hq]
    rfl
theorem val_get {P : List (List Int)} {row : List Int} (hP : VP P) (hl : row.length = P.length) {p : Nat} (hp : p < P.length) : (valL P row).getD p 0 = sg P.length fun j => row.getD j 0 * (curL P p).getD j 0 := by
  rw [← meet_cur hP hl hp]
  unfold meetI
  rw [zip_sum _ _ (by rw [hl]; exact (curM_len P p _).symm), hl]
theorem ex_md {P : List (List Int)} {counts : List Int} (hP : VP P) (hl : counts.length = P.length) : exL P (mdL P counts) = counts := by
  have hm : (mdL P counts).length = P.length := mdN_len P counts _
  have hx : (exL P (mdL P counts)).length = P.length := by rw [← hm]; exact exN_len P _ _
  refine ext_getD (by rw [hx, hl]) fun j hj => ?_
  rw [hx] at hj
  have e : exL P (mdL P counts) = exN P (mdL P counts) P.length := by
    unfold exL exN
    rw [hm]
  rw [e, ex_get hP j P.length (by rw [hm]; exact Nat.le_refl _)]
  have e1 : (mdL P counts).getD j 0 = sg P.length fun p => counts.getD p 0 * (curL P p).getD j 0 := mdN_get P counts hj _
  have e2 : sg P.length (fun q => (mdL P counts).getD q 0 * cnt j (ownP P q)) = sg P.length fun p => counts.getD p 0 * sg P.length fun q => (curL P p).getD q 0 * cnt j (ownP P q) := by
    have e3 : ∀ q, q < P.length → (mdL P counts).getD q 0 * cnt j (ownP P q) = sg P.length fun p => counts.getD p 0 * ((curL P p).getD q 0 * cnt j (ownP P q)) := fun q hq => by
      rw [show (mdL P counts).getD q 0 = sg P.length fun p => counts.getD p 0 * (curL P p).getD q 0 from mdN_get P counts hq _, Int.mul_comm, ← sg_mul]
      refine sg_congr fun p _ => ?_
      rw [Int.mul_comm, Int.mul_assoc]
    rw [sg_congr e3, sg_comm]
    refine sg_congr fun p _ => ?_
    rw [sg_mul]
  rw [e1, e2, ← sg_sub, sg_congr (g := fun p => if p = j then counts.getD j 0 else 0) fun p hp => ?_, sg_one hj]
  rw [← Int.mul_sub]
  have h := curL_get hP hp j
  by_cases hpj : p = j
  · subst hpj
    rw [if_pos rfl] at h ⊢
    rw [show (curL P p).getD p 0 - sg P.length (fun q => (curL P p).getD q 0 * cnt p (ownP P q)) = 1 by omega, Int.mul_one]
  · rw [if_neg (Ne.symm hpj)] at h
    rw [if_neg hpj, show (curL P p).getD j 0 - sg P.length (fun q => (curL P p).getD q 0 * cnt j (ownP P q)) = 0 by omega, Int.mul_zero]
/-- mulL and valL are linear -/
def addL (a b : List Int) : List Int := (List.range a.length).map fun p => a.getD p 0 + b.getD p 0
theorem addL_len {a b : List Int} : (addL a b).length = a.length := by
  unfold addL
  rw [List.length_map, List.length_range]
theorem addL_get {a b : List Int} {j : Nat} (hj : j < a.length) : (addL a b).getD j 0 = a.getD j 0 + b.getD j 0 := by
  unfold addL
  rw [List.getD_eq_getElem?_getD, List.getElem?_map, List.getElem?_range hj]
  rfl
theorem val_add {P : List (List Int)} {m n : List Int} (hP : VP P) (hm : m.length = P.length) (hn : n.length = P.length) : valL P (addL m n) = addL (valL P m) (valL P n) := by
  have l1 : (valL P m).length = P.length := by rw [← hm]; exact valN_len P m m.length
  have l2 : (valL P (addL m n)).length = P.length := by
    have h : (valL P (addL m n)).length = (addL m n).length := valN_len P _ _
    rw [h, addL_len, hm]
  refine ext_getD (by rw [l2, addL_len, l1]) fun j hj => ?_
  rw [l2] at hj
  rw [addL_get (by omega), val_get hP (by rw [addL_len, hm]) hj, val_get hP hm hj, val_get hP hn hj, ← sg_add]
  refine sg_congr fun q hq => ?_
  rw [addL_get (by omega), Int.add_mul]
theorem ex_add {P : List (List Int)} {m n : List Int} (hP : VP P) (hm : m.length = P.length) (hn : n.length = P.length) : exL P (addL m n) = addL (exL P m) (exL P n) := by
  have l1 : (exL P m).length = P.length := by rw [← hm]; exact exN_len P m m.length
  have l2 : (exL P (addL m n)).length = P.length := by
    have h : (exL P (addL m n)).length = (addL m n).length := exN_len P _ _
    rw [h, addL_len, hm]
  have e : ∀ r : List Int, r.length = P.length → exL P r = exN P r P.length := fun r hr => by
    unfold exL exN
    rw [hr]
  refine ext_getD (by rw [l2, addL_len, l1]) fun j hj => ?_
  rw [l2] at hj
  have la : (addL m n).length = P.length := by rw [addL_len, hm]
  rw [addL_get (by omega), e _ la, e m hm, e n hn, ex_get hP j P.length (by omega), ex_get hP j P.length (by omega), ex_get hP j P.length (by omega), addL_get (by omega), sg_congr (f := fun q => (addL m n).getD q 0 * cnt j (ownP P q)) (g := fun q => m.getD q 0 * cnt j (ownP P q) + n.getD q 0 * cnt j (ownP P q)) fun q hq => by rw [addL_get (by omega), Int.add_mul], sg_add]
  omega
theorem num_sg : ∀ m : List Int, numI m = sg m.length fun j => m.getD j 0 * (m.getD j 0 + 1) / 2 := fun m => by
  unfold numI sg
  congr 1
  refine List.ext_getElem (by rw [List.length_map, List.length_map, List.length_range]) fun j h1 h2 => ?_
  rw [List.length_map] at h1
  rw [List.getElem_map, List.getElem_map, List.getElem_range, List.getD_eq_getElem?_getD, List.getElem?_eq_getElem h1]
  rfl
theorem tri_add (a b : Int) : (a + b) * (a + b + 1) / 2 = a * (a + 1) / 2 + b * (b + 1) / 2 + a * b := by
  have ev : ∀ x : Int, ∃ k, x * (x + 1) = 2 * k := fun x => by
    rcases (show x % 2 = 0 ∨ x % 2 = 1 by omega) with h | h
    · exact ⟨x / 2 * (x + 1), by rw [← Int.mul_assoc, show 2 * (x / 2) = x by omega]⟩
    · exact ⟨x * ((x + 1) / 2), by rw [Int.mul_left_comm, show 2 * ((x + 1) / 2) = x + 1 by omega]⟩
  obtain ⟨k, hk⟩ := ev a
  obtain ⟨l, hl⟩ := ev b
  have e : (a + b) * (a + b + 1) = 2 * (k + l + a * b) := by
    have hk2 : a * a + a = 2 * k := by rw [← hk, Int.mul_add, Int.mul_one]
    have hl2 : b * b + b = 2 * l := by rw [← hl, Int.mul_add, Int.mul_one]
    simp only [Int.mul_add, Int.add_mul, Int.mul_one, Int.mul_comm b a]
    omega
  rw [e, hk, hl]
  omega
theorem num_add {m n : List Int} (h : m.length = n.length) : numI (addL m n) = numI m + numI n + meetI m n := by
  rw [num_sg, num_sg m, num_sg n, addL_len, ← h]
  unfold meetI
  rw [zip_sum m n h, ← sg_add, ← sg_add]
  refine sg_congr fun j hj => ?_
  rw [addL_get hj]
  exact tri_add _ _

/-! how large the rows and the values may be -/
theorem getD_nn {c : List Int} (h : ∀ m ∈ c, 0 ≤ m) (i : Nat) : 0 ≤ c.getD i 0 := by
  rw [List.getD_eq_getElem?_getD]
  by_cases hi : i < c.length
  · rw [List.getElem?_eq_getElem hi]
    exact h _ (List.getElem_mem hi)
  · rw [List.getElem?_eq_none (by omega)]
    exact Int.le_refl 0
/-- what the points look like -/
def PSt (P : List (List Int)) : Prop := ∀ p, p < P.length → (p = 0 ∧ ownP P p = []) ∨ (∃ s : Int, ownP P p = [s] ∧ 0 ≤ s ∧ s < p) ∨ ∃ s t : Int, ownP P p = [s, t] ∧ 0 ≤ t ∧ t < s ∧ s < p
theorem itB_st {P : List (List Int)} {c : List Int} (hP : VPn P) (h : itB P (ti c) = true) : (∃ s : Int, c = [s] ∧ 0 ≤ s ∧ s < P.length) ∨ ∃ s t : Int, c = [s, t] ∧ 0 ≤ t ∧ t < s ∧ s < P.length := by
  match c with
  | [] => cases h
  | [a] =>
    have h1 : (decide (0 ≤ a) && decide (a < (P.length : Nat))) = true := h
    simp only [Bool.and_eq_true, decide_eq_true_eq] at h1
    exact .inl ⟨a, rfl, h1.1, h1.2⟩
  | [a, b] =>
    have h1 : (((decide (0 ≤ a) && decide (a < (P.length : Nat))) && (decide (0 ≤ b) && decide (b < (P.length : Nat)))) && decide (b ∈ ownP P a.toNat)) = true := h
    simp only [Bool.and_eq_true, decide_eq_true_eq] at h1
    have h2 := (hP a.toNat).2 b h1.2
    exact .inr ⟨a, b, rfl, h1.1.2.1, by omega, h1.1.1.2⟩
  | a :: b :: d :: r => cases h
theorem pts_St : ∀ (t P : List (List Int)), 0 < P.length → VPn P → PSt P → ptsB P (t.map ti) = true → PSt (P ++ t)
  | [], P, _, _, h, _ => by rw [List.append_nil]; exact h
  | c :: t, P, h0, hP, h, hp => by
    obtain ⟨h1, h2⟩ := itB_ti hp
    obtain ⟨f1, f2⟩ := itB_facts h1
    have h3 : VPn (P ++ [c]) := fun p => by
      rw [own_snoc]
      by_cases e : p = P.length
      · subst e
        rw [if_pos rfl]
        exact ⟨f1, f2⟩
      · rw [if_neg e]
        exact hP p
    have h4 : PSt (P ++ [c]) := fun p hp => by
      rw [List.length_append, List.length_singleton] at hp
      rw [own_snoc]
      by_cases e : p = P.length
      · subst e
        rw [if_pos rfl]
        exact .inr (itB_st hP h1)
      · rw [if_neg e]
        exact h p (by omega)
    have := pts_St t (P ++ [c]) (by rw [List.length_append]; omega) h3 h4 h2
    rw [List.append_assoc] at this
    exact this
theorem st_nil : PSt [[]] := fun p hp => by
  have : p = 0 := by
    have : p < 1 := hp
    omega
  subst this
  exact .inl ⟨rfl, rfl⟩
def fb : Nat → Int
  | 0 => 0
  | 1 => 1
  | n + 2 => fb (n + 1) + fb n
theorem fb_nn : ∀ n, 0 ≤ fb n ∧ 0 ≤ fb (n + 1)
  | 0 => ⟨by decide, by decide⟩
  | n + 1 => by
    have h := fb_nn n
    refine ⟨h.2, ?_⟩
    show 0 ≤ fb (n + 1) + fb n
    omega
theorem fb_step (n : Nat) : fb n ≤ fb (n + 1) := by
  cases n with
  | zero => decide
  | succ n =>
    show fb (n + 1) ≤ fb (n + 1) + fb n
    have := fb_nn n
    omega
theorem fb_mono {a b : Nat} (h : a ≤ b) : fb a ≤ fb b := by
  induction b with
  | zero => rw [Nat.le_zero.mp h]; exact Int.le_refl _
  | succ b ih =>
    by_cases e : a = b + 1
    · rw [e]; exact Int.le_refl _
    · exact Int.le_trans (ih (by omega)) (fb_step b)
section
variable {P : List (List Int)}
/-- the paths to a point come through the points before -/
theorem fwd (hP : VP P) {p j : Nat} (hp : p < P.length) (hj : j < P.length) : (curL P p).getD j 0 = (if p = j then 1 else 0) + ((ownP P p).map fun s => (curL P s.toNat).getD j 0).sum := by
  have hl : ((List.replicate P.length (0 : Int)).set j 1).length = P.length := by rw [List.length_set, List.length_replicate]
  have eg : ∀ i, ((List.replicate P.length (0 : Int)).set j 1).getD i 0 = if j = i then 1 else 0 := fun i => by
    rw [getD_set (by rw [List.length_replicate]; exact hj)]
    by_cases h : j = i
    · rw [if_pos h, if_pos h]
    · rw [if_neg h, if_neg h, List.getD_eq_getElem?_getD, List.getElem?_replicate]
      split <;> rfl
  have hv : ∀ q, q < P.length → (valL P ((List.replicate P.length (0 : Int)).set j 1)).getD q 0 = (curL P q).getD j 0 := fun q hq => by
    rw [val_get hP hl hq, sg_congr (g := fun i => if i = j then (curL P q).getD j 0 else 0) fun i _ => by
      rw [eg]
      by_cases h : i = j
      · subst h
        rw [if_pos rfl, if_pos rfl, Int.one_mul]
      · rw [if_neg (Ne.symm h), if_neg h, Int.zero_mul], sg_one hj]
  have e1 : valL P ((List.replicate P.length (0 : Int)).set j 1) = valN P ((List.replicate P.length (0 : Int)).set j 1) P.length := by unfold valL valN; rw [hl]
  have h := valN_get P ((List.replicate P.length (0 : Int)).set j 1) p P.length hp
  rw [← e1, hv p hp, eg] at h
  rw [h]
  congr 1
  · by_cases h : j = p
    · rw [if_pos h, if_pos h.symm]
    · rw [if_neg h, if_neg (Ne.symm h)]
  · congr 1
    refine List.map_congr_left fun s hs => ?_
    have hs := hP p s hs
    rw [← valN_pre P _ hs.1 hs.2 (Nat.le_of_lt hp), ← e1]
    exact hv s.toNat (by omega)
theorem cur_b (hP : VP P) (hS : PSt P) {j : Nat} (hj : j < P.length) : ∀ p, p < P.length → 0 ≤ (curL P p).getD j 0 ∧ (curL P p).getD j 0 ≤ fb (p + 1 - j) := fun p => by
  induction p using Nat.strongRecOn with
  | ind p ih =>
    intro hp
    rw [fwd hP hp hj]
    have z : ∀ n, n = 0 → fb n = 0 := fun n h => by rw [h]; rfl
    have o : ∀ n, n = 1 → fb n = 1 := fun n h => by rw [h]; rfl
    have nn := fun n => (fb_nn n).1
    rcases hS p hp with ⟨h0, e⟩ | ⟨s, e, h1, h2⟩ | ⟨s, t, e, h1, h2, h3⟩
    · rw [e, List.map_nil, List.sum_nil]
      by_cases h : p = j
      · rw [if_pos h, o (p + 1 - j) (by omega)]
        exact ⟨by decide, by decide⟩
      · rw [if_neg h]
        exact ⟨by decide, nn _⟩
    · rw [e, List.map_cons, List.map_nil, List.sum_cons, List.sum_nil]
      have hs := ih s.toNat (by omega) (by omega)
      by_cases h : p = j
      · rw [if_pos h, o (p + 1 - j) (by omega)]
        rw [z (s.toNat + 1 - j) (by omega)] at hs
        omega
      · rw [if_neg h]
        have := fb_mono (show s.toNat + 1 - j ≤ p + 1 - j by omega)
        omega
    · rw [e, List.map_cons, List.map_cons, List.map_nil, List.sum_cons, List.sum_cons, List.sum_nil]
      have hs := ih s.toNat (by omega) (by omega)
      have ht := ih t.toNat (by omega) (by omega)
      by_cases h : p = j
      · rw [if_pos h, o (p + 1 - j) (by omega)]
        rw [z (s.toNat + 1 - j) (by omega)] at hs
        rw [z (t.toNat + 1 - j) (by omega)] at ht
        omega
      · rw [if_neg h]
        by_cases h4 : p < j
        · rw [z (s.toNat + 1 - j) (by omega)] at hs
          rw [z (t.toNat + 1 - j) (by omega)] at ht
          have := nn (p + 1 - j)
          omega
        · have m1 := fb_mono (show s.toNat + 1 - j ≤ p - 1 - j + 1 by omega)
          have m2 := fb_mono (show t.toNat + 1 - j ≤ p - 1 - j by omega)
          have e3 : fb (p + 1 - j) = fb (p - 1 - j + 1) + fb (p - 1 - j) := by
            rw [show p + 1 - j = p - 1 - j + 2 by omega]
            rfl
          omega
theorem cur_one (hP : VP P) (hS : PSt P) : ∀ p, p < P.length → 1 ≤ (curL P p).getD 0 0 := fun p => by
  induction p using Nat.strongRecOn with
  | ind p ih =>
    intro hp
    rw [fwd hP hp (by omega)]
    rcases hS p hp with ⟨h0, e⟩ | ⟨s, e, h1, h2⟩ | ⟨s, t, e, h1, h2, h3⟩
    · rw [e, if_pos h0, List.map_nil, List.sum_nil]
      decide
    · rw [e, List.map_cons, List.map_nil, List.sum_cons, List.sum_nil]
      have hs := ih s.toNat (by omega) (by omega)
      split <;> omega
    · rw [e, List.map_cons, List.map_cons, List.map_nil, List.sum_cons, List.sum_cons, List.sum_nil]
      have hs := ih s.toNat (by omega) (by omega)
      have ht := ih t.toNat (by omega) (by omega)
      split <;> omega
theorem sg_le {n : Nat} {f g : Nat → Int} (h : ∀ i, i < n → f i ≤ g i) : sg n f ≤ sg n g := by
  induction n with
  | zero => exact Int.le_refl _
  | succ n ih =>
    rw [sg_succ, sg_succ]
    have := ih fun i hi => h i (by omega)
    have := h n (by omega)
    omega
theorem sg_nn {n : Nat} {f : Nat → Int} (h : ∀ i, i < n → 0 ≤ f i) : 0 ≤ sg n f := by
  have := sg_le (n := n) (f := fun _ => 0) (g := f) h
  rw [sg_nil] at this
  exact this
theorem sg_more {n m : Nat} {f : Nat → Int} (hn : n ≤ m) (h : ∀ i, i < m → 0 ≤ f i) : sg n f ≤ sg m f := by
  obtain ⟨k, rfl⟩ := Nat.exists_eq_add_of_le hn
  rw [sg_split]
  have := sg_nn (n := k) (f := fun i => f (n + i)) fun i hi => h _ (by omega)
  omega
theorem sg_term {n i : Nat} {f : Nat → Int} (hi : i < n) (h : ∀ i, i < n → 0 ≤ f i) : f i ≤ sg n f := by
  have h1 := sg_more (n := i + 1) (m := n) (f := f) (by omega) h
  rw [sg_succ] at h1
  have := sg_nn (n := i) (f := f) fun j hj => h j (by omega)
  omega
/-- the bound of a row at j, for ten points and counts to 3 -/
def bj (j : Nat) : Int := sg 10 fun q => 3 * fb (q + 1 - j)
theorem bj_sum : sg 10 (fun j => bj j * fb (10 - j)) = 38016 := by decide +kernel
theorem bj_one {q j : Nat} (hq : q < 10) : fb (q + 1 - j) ≤ bj j := by
  have h := sg_term (n := 10) (f := fun q => 3 * fb (q + 1 - j)) hq fun i _ => by have := (fb_nn (i + 1 - j)).1; show 0 ≤ 3 * _; omega
  have h2 := (fb_nn (q + 1 - j)).1
  unfold bj
  have h3 : 3 * fb (q + 1 - j) ≤ sg 10 fun q => 3 * fb (q + 1 - j) := h
  omega
theorem bj_nn (j : Nat) : 0 ≤ bj j := sg_nn fun i _ => by have := (fb_nn (i + 1 - j)).1; show 0 ≤ 3 * _; omega
theorem bj_le : ∀ j, j < 10 → bj j ≤ 1000 := by decide +kernel
theorem val_bd (hP : VP P) (hS : PSt P) (h10 : P.length ≤ 10) {row : List Int} (hl : row.length = P.length) (hr : ∀ j, j < P.length → 0 ≤ row.getD j 0 ∧ row.getD j 0 ≤ bj j) {p : Nat} (hp : p < P.length) : 0 ≤ (valL P row).getD p 0 ∧ (valL P row).getD p 0 ≤ 38016 := by
  rw [val_get hP hl hp]
  refine ⟨sg_nn fun j hj => Int.mul_nonneg (hr j hj).1 (cur_b hP hS hj p hp).1, ?_⟩
  have h1 : sg P.length (fun j => row.getD j 0 * (curL P p).getD j 0) ≤ sg P.length (fun j => bj j * fb (10 - j)) := sg_le fun j hj => by
    have h2 := cur_b hP hS hj p hp
    have h3 := fb_mono (show p + 1 - j ≤ 10 - j by omega)
    exact Int.mul_le_mul (hr j hj).2 (by omega) h2.1 (bj_nn j)
  have h2 : sg P.length (fun j => bj j * fb (10 - j)) ≤ sg 10 (fun j => bj j * fb (10 - j)) := sg_more h10 fun i _ => Int.mul_nonneg (bj_nn i) (fb_nn _).1
  rw [bj_sum] at h2
  omega
theorem md_bd (hP : VP P) (hS : PSt P) (h10 : P.length ≤ 10) {counts : List Int} (hc : ∀ p, 0 ≤ counts.getD p 0 ∧ counts.getD p 0 ≤ 3) {j : Nat} (hj : j < P.length) : 0 ≤ (mdL P counts).getD j 0 ∧ (mdL P counts).getD j 0 ≤ bj j := by
  have e : (mdL P counts).getD j 0 = sg P.length fun p => counts.getD p 0 * (curL P p).getD j 0 := mdN_get P counts hj _
  rw [e]
  refine ⟨sg_nn fun p hp => Int.mul_nonneg (hc p).1 (cur_b hP hS hj p hp).1, ?_⟩
  have h1 : sg P.length (fun p => counts.getD p 0 * (curL P p).getD j 0) ≤ sg P.length (fun p => 3 * fb (p + 1 - j)) := sg_le fun p hp => by
    have h2 := cur_b hP hS hj p hp
    exact Int.mul_le_mul (hc p).2 h2.2 h2.1 (by decide)
  exact Int.le_trans h1 (sg_more h10 fun i _ => Int.mul_nonneg (by decide) (fb_nn _).1)
theorem st_nd (hP : VP P) (hS : PSt P) : ND P := fun p => by
  by_cases hp : p < P.length
  · rcases hS p hp with ⟨_, e⟩ | ⟨s, e, _⟩ | ⟨s, t, e, h1, h2, h3⟩
    · rw [e]; exact List.nodup_nil
    · rw [e]; simp
    · rw [e]; simp; omega
  · unfold ownP
    rw [List.getD_eq_getElem?_getD, List.getElem?_eq_none (by omega)]
    exact List.nodup_nil
end

/-! what is told, and that it is due -/
theorem hd_mal : hdRun ctE Mal [("Malformed", (xTup2 (fun _ => some (.str "malformed")) (fun _ => some .non))), ("Refused", (xTup2 (fun _ => some (.str "raised")) (xFld "Refused" "reason")))] = some (some (.tup [.str "malformed", .non])) := by decide +kernel
theorem hd_ref : hdRun ctE RefX [("Malformed", (xTup2 (fun _ => some (.str "malformed")) (fun _ => some .non))), ("Refused", (xTup2 (fun _ => some (.str "raised")) (xFld "Refused" "reason")))] = some (some (.tup [.str "raised", .str "excess"])) := by decide +kernel
theorem sameI {i : Int} {n : Nat} {M : Mem} : F_law_same (n + 1) [.d (.int i), .d (.int i)] M = .ok (.d (.bl true)) M := by
  rw [F_law_same]
  refine e_fn rfl ?_
  unfold T_law_same
  repeat' (first | (wtm_at "mpA") | (wtm_at "mp1"))
  first | done | (rw [decide_eq_true rfl]; exact r_d)
theorem sameS {n : Nat} {M : Mem} : F_law_same (n + 1) [.d (.str "excess"), .d (.str "excess")] M = .ok (.d (.bl true)) M := by
  rw [F_law_same]
  refine e_fn rfl ?_
  unfold T_law_same
  repeat' (first | (wtm_at "mpA") | (wtm_at "mp1"))
  first | done | rfl
theorem sameT {c : List Int} (h : c.length ≤ 90000) {n : Nat} {M : Mem} : F_law_same (n + 2) [.d (ti c), .d (ti c)] M = .ok (.d (.bl true)) M :=
  sameL (by rw [List.length_map]; exact h) fun d hd M => by
    obtain ⟨i, _, rfl⟩ := List.mem_map.mp hd
    exact sameI
theorem toldC {a b x : D} (h : ∀ M, Fideal_codimension [.d a, .d b] M = .ok (.d x) M) {M : Mem} : F_law_told [.d (.fn "ideal_codimension"), .d (.tup [a, b])] M = .ok (.d (.tup [.str "told", x])) M := by
  unfold F_law_told
  refine e_fn rfl ?_
  unfold T_law_told
  repeat' (first | (wtm_at "mpA") | (with_reducible apply e_call (h _)) | (wtm_at "mp1"))
theorem toldCM {a b : D} (h : ∀ M, Fideal_codimension [.d a, .d b] M = .exc Mal M) {M : Mem} : F_law_told [.d (.fn "ideal_codimension"), .d (.tup [a, b])] M = .ok (.d (.tup [.str "malformed", .non])) M := by
  unfold F_law_told
  refine e_fn rfl ?_
  unfold T_law_told
  repeat' (first | (wtm_at "mpA") | (with_reducible refine e_callX (h _) ?_) | (with_reducible apply h_some hd_mal) | (wtm_at "mp1"))
theorem toldCR {a b : D} (h : ∀ M, Fideal_codimension [.d a, .d b] M = .exc RefX M) {M : Mem} : F_law_told [.d (.fn "ideal_codimension"), .d (.tup [a, b])] M = .ok (.d (.tup [.str "raised", .str "excess"])) M := by
  unfold F_law_told
  refine e_fn rfl ?_
  unfold T_law_told
  repeat' (first | (wtm_at "mpA") | (with_reducible refine e_callX (h _) ?_) | (with_reducible apply h_some hd_ref) | (wtm_at "mp1"))
theorem tells_ok {f g x : D} (h : ∀ M, F_law_told [.d f, .d g] M = .ok (.d (.tup [.str "told", x])) M) (hs : ∀ M, F_law_same 8 [.d x, .d x] M = .ok (.d (.bl true)) M) (M : Mem) : F_law_tells [.d f, .d g, .d x] M = .ok (.d (.bl true)) M := by
  have h1 : ∀ M, F_law_is_told [.d (.tup [.str "told", x]), .d x] M = .ok (.d (.bl true)) M := fun M => by
    unfold F_law_is_told
    refine e_fn rfl ?_
    unfold T_law_is_told
    repeat' (first | (wtm_at "mpA") | (with_reducible apply e_call (hs _)) | (wtm_at "mp1"))
    try exact r_d
  unfold F_law_tells
  refine e_fn rfl ?_
  unfold T_law_tells
  repeat' (first | (wtm_at "mpA") | (with_reducible apply e_call (h _)) | (with_reducible apply e_call (h1 _)) | (wtm_at "mp1"))
  try exact r_d
theorem raisesM {f g : D} (h : ∀ M, F_law_told [.d f, .d g] M = .ok (.d (.tup [.str "malformed", .non])) M) (M : Mem) : F_law_raises [.d f, .d g, .d (.str "malformed")] M = .ok (.d (.bl true)) M := by
  have h1 : ∀ M, F_law_is_raised [.d (.tup [.str "malformed", .non]), .d (.str "malformed")] M = .ok (.d (.bl true)) M := fun M => by
    unfold F_law_is_raised
    refine e_fn rfl ?_
    unfold T_law_is_raised
    repeat' (first | (wtm_at "mpA") | (wtm_at "mp1"))
    try exact r_d
  unfold F_law_raises
  refine e_fn rfl ?_
  unfold T_law_raises
  repeat' (first | (wtm_at "mpA") | (with_reducible apply e_call (h _)) | (with_reducible apply e_call (h1 _)) | (wtm_at "mp1"))
  try exact r_d
theorem raisesR {f g : D} (h : ∀ M, F_law_told [.d f, .d g] M = .ok (.d (.tup [.str "raised", .str "excess"])) M) (M : Mem) : F_law_raises [.d f, .d g, .d (.str "excess")] M = .ok (.d (.bl true)) M := by
  have hs : ∀ M, F_law_same 8 [.d (.str "excess"), .d (.str "excess")] M = .ok (.d (.bl true)) M := fun M => sameS
  have h1 : ∀ M, F_law_is_raised [.d (.tup [.str "raised", .str "excess"]), .d (.str "excess")] M = .ok (.d (.bl true)) M := fun M => by
    unfold F_law_is_raised
    refine e_fn rfl ?_
    unfold T_law_is_raised
    repeat' (first | (wtm_at "mpA") | (with_reducible apply e_call (hs _)) | (wtm_at "mp1"))
    try exact r_d
  unfold F_law_raises
  refine e_fn rfl ?_
  unfold T_law_raises
  repeat' (first | (wtm_at "mpA") | (with_reducible apply e_call (h _)) | (with_reducible apply e_call (h1 _)) | (wtm_at "mp1"))
  try exact r_d
/-! the law's rows -/
section
variable {P : List (List Int)}
theorem lmul_ok (p : PD P) {v : List Int} (hl : v.length = P.length) {M : Mem} : F_law_multiplicities [.d (tis P), .d (ti v)] M = .ok (.fr ((mulL P v).map .int)) M := by
  have h60 : P.length ≤ 1000 := by have := p.le; omega
  have hlr : (P.map ti).length ≤ 1000000 := by rw [List.length_map]; omega
  unfold F_law_multiplicities
  refine e_fn rfl ?_
  unfold T_law_multiplicities
  repeat' (first | (wtm_at "mpA") | (wtm_at "mp0"))
  rw [List.length_map]
  refine e_compR (fun k => .int (v.getD k 0 - ((ownP P k).map (gI v)).sum)) (by omega) (fun k hk => ?_) ?_
  · have i1 : ∀ M, idx (.d (ti v)) (.d (.int (k : Nat))) M = .ok (.d (.int (v.getD k 0))) M := fun M => (row_t _).1 k M (by omega)
    have i2 : ∀ M, idx (.d (tis P)) (.d (.int (k : Nat))) M = .ok (.d (ti (ownP P k))) M := fun M => idx_pt hk M
    have ho1 := p.own k
    refine ⟨_, rfl, .d (.int (v.getD k 0 - ((ownP P k).map (gI v)).sum)), el_start ?_, rfl⟩
    repeat' (first | (wtm_at "mpA") | (with_reducible apply p_idx (i1 _)) | (with_reducible apply p_idx (i2 _)) | (wtm_at "mp0"))
    refine e_compA (φ := D.int) (ownP P k) (fun q => .int (gI v q)) (fun q hq => ?_) (by omega) ?_
    · have hq := p.vp k q hq
      have i3 : ∀ M, idx (.d (ti v)) (.d (.int q)) M = .ok (.d (.int (gI v q))) M := fun M => idx_tiI (by omega) (by omega)
      refine ⟨_, rfl, .d (.int (gI v q)), el_start ?_, rfl⟩
      repeat' (first | (wtm_at "mpA") | (with_reducible apply p_idx (i3 _)) | (wtm_at "mp1"))
      rfl
    · have e : (ownP P k).map (fun q => D.int (gI v q)) = ((ownP P k).map (gI v)).map .int := by rw [List.map_map]; rfl
      rw [e]
      repeat' (first | (wtm_at "mpA") | (with_reducible apply e_call sum_ints) | (wtm_at "mp1"))
      try rfl
  · have e : (List.range P.length).map (fun k => D.int (v.getD k 0 - ((ownP P k).map (gI v)).sum)) = (mulL P v).map .int := by
      unfold mulL
      rw [List.map_map, hl]
      rfl
    rw [e]
    repeat' (first | (wtm_at "mpA") | (wtm_at "mp1"))
    try exact r_f
end

/-! excesses: a matrix that is no more than 0 beside its diagonal -/
/-- no two points are satellites of the same two -/
def SU (P : List (List Int)) : Prop := ∀ p q, p < q → q < P.length → ∀ s t, ¬ (ownP P p = [s, t] ∧ ownP P q = [s, t])
/-- the second of the two is named by the first -/
def SIn (P : List (List Int)) : Prop := ∀ p, ∀ s t : Int, ownP P p = [s, t] → t ∈ ownP P s.toNat
theorem sg_le_one {n : Nat} {f : Nat → Int} (h : ∀ i, i < n → f i = 0 ∨ f i = 1) (hu : ∀ i j, i < j → j < n → ¬ (f i = 1 ∧ f j = 1)) : sg n f = 0 ∨ (sg n f = 1 ∧ ∃ i, i < n ∧ f i = 1) := by
  induction n with
  | zero => exact .inl rfl
  | succ n ih =>
    rw [sg_succ]
    rcases ih (fun i hi => h i (by omega)) (fun i j hij hj => hu i j hij (by omega)) with e | ⟨e, i, hi, e2⟩
    · rcases h n (by omega) with e3 | e3
      · left; omega
      · right; exact ⟨by omega, n, by omega, e3⟩
    · rcases h n (by omega) with e3 | e3
      · right; exact ⟨by omega, i, by omega, e2⟩
      · exact absurd ⟨e2, e3⟩ (hu i n hi (by omega))
section
variable {P : List (List Int)}
theorem cnt_01 (hP : VP P) (hS : PSt P) (j q : Nat) : cnt j (ownP P q) = 0 ∨ (cnt j (ownP P q) = 1 ∧ (j : Int) ∈ ownP P q) := by
  rw [cnt_nd (st_nd hP hS q) fun r hr => (hP q r hr).1]
  by_cases h : (j : Int) ∈ ownP P q
  · rw [decide_eq_true h]
    exact .inr ⟨rfl, h⟩
  · rw [decide_eq_false h]
    exact .inl rfl
theorem cnt_nn (j : Nat) (own : List Int) : 0 ≤ cnt j own := by
  unfold cnt
  omega
theorem cnt_in (hP : VP P) (hS : PSt P) {j q : Nat} (h : (j : Int) ∈ ownP P q) : cnt j (ownP P q) = 1 := by
  rw [cnt_nd (st_nd hP hS q) fun r hr => (hP q r hr).1, decide_eq_true h]
  rfl
/-- how often both are named -/
def bothN (P : List (List Int)) (j k : Nat) : Int := sg P.length fun q => cnt j (ownP P q) * cnt k (ownP P q)
theorem both_le (hP : VP P) (hS : PSt P) (hU : SU P) (hI : SIn P) {j k : Nat} (hjk : j ≠ k) : bothN P j k ≤ cnt k (ownP P j) + cnt j (ownP P k) := by
  have two : ∀ q, q < P.length → (j : Int) ∈ ownP P q → (k : Int) ∈ ownP P q → ownP P q = [(j : Int), (k : Int)] ∧ k < j ∨ ownP P q = [(k : Int), (j : Int)] ∧ j < k := fun q hq h1 h2 => by
    rcases hS q hq with ⟨_, e⟩ | ⟨s, e, _⟩ | ⟨s, t, e, g1, g2, g3⟩
    · rw [e] at h1; cases h1
    · rw [e, List.mem_singleton] at h1 h2
      omega
    · rw [e, List.mem_cons, List.mem_singleton] at h1 h2
      rcases h1 with h1 | h1 <;> rcases h2 with h2 | h2
      · omega
      · left; rw [e, h1, h2]; exact ⟨rfl, by omega⟩
      · right; rw [e, h1, h2]; exact ⟨rfl, by omega⟩
      · omega
  have z01 : ∀ q, q < P.length → cnt j (ownP P q) * cnt k (ownP P q) = 0 ∨ cnt j (ownP P q) * cnt k (ownP P q) = 1 := fun q _ => by
    rcases cnt_01 hP hS j q with e | ⟨e, _⟩
    · left; rw [e, Int.zero_mul]
    · rcases cnt_01 hP hS k q with e2 | ⟨e2, _⟩
      · left; rw [e2, Int.mul_zero]
      · right; rw [e, e2]; rfl
  have one : ∀ q, cnt j (ownP P q) * cnt k (ownP P q) = 1 → (j : Int) ∈ ownP P q ∧ (k : Int) ∈ ownP P q := fun q h => by
    rcases cnt_01 hP hS j q with e | ⟨e, m⟩
    · rw [e, Int.zero_mul] at h; cases h
    · rcases cnt_01 hP hS k q with e2 | ⟨e2, m2⟩
      · rw [e2, Int.mul_zero] at h; cases h
      · exact ⟨m, m2⟩
  have n1 := cnt_nn k (ownP P j)
  have n2 := cnt_nn j (ownP P k)
  rcases sg_le_one z01 (fun a b hab hb ⟨h1, h2⟩ => by
    obtain ⟨a1, a2⟩ := one a h1
    obtain ⟨b1, b2⟩ := one b h2
    rcases two a (by omega) a1 a2 with ⟨e1, g1⟩ | ⟨e1, g1⟩ <;> rcases two b hb b1 b2 with ⟨e2, g2⟩ | ⟨e2, g2⟩
    · exact hU a b hab hb _ _ ⟨e1, e2⟩
    · omega
    · omega
    · exact hU a b hab hb _ _ ⟨e1, e2⟩) with e | ⟨e, q, hq, e2⟩
  · unfold bothN
    rw [e]
    omega
  · unfold bothN
    rw [e]
    obtain ⟨m1, m2⟩ := one q e2
    rcases two q hq m1 m2 with ⟨e3, g⟩ | ⟨e3, g⟩
    · have := hI q _ _ e3
      rw [Int.toNat_natCast] at this
      have := cnt_in hP hS this
      omega
    · have := hI q _ _ e3
      rw [Int.toNat_natCast] at this
      have := cnt_in hP hS this
      omega
/-- the excess of a row that is nowhere below 0 is no more than the diagonal's part -/
def growN (P : List (List Int)) (j : Nat) : Int := 1 + sg P.length fun q => cnt j (ownP P q)
theorem mulL_get (hP : VP P) {w : List Int} (hl : w.length = P.length) {p : Nat} (hp : p < P.length) : (mulL P w).getD p 0 = w.getD p 0 - sg P.length fun k => w.getD k 0 * cnt k (ownP P p) := by
  unfold mulL
  rw [List.getD_eq_getElem?_getD, List.getElem?_map, List.getElem?_range (by omega)]
  show w.getD p 0 - ((ownP P p).map (gI w)).sum = _
  rw [← own_sum (n := P.length) (fun k => w.getD k 0) (ownP P p) fun r hr => by have := hP p r hr; omega]
  rfl
theorem exV_get (hP : VP P) {w : List Int} (hl : w.length = P.length) {j : Nat} : (exV P w).getD j 0 = (mulL P w).getD j 0 - sg P.length fun q => (mulL P w).getD q 0 * cnt j (ownP P q) := by
  have h := ex_get (row := mulL P w) hP j P.length (by rw [mul_len, hl]; exact Nat.le_refl _)
  rw [← h]
  unfold exV exL exN
  rw [mul_len, hl]
/-- the matrix of excesses -/
def mA (P : List (List Int)) (j k : Nat) : Int := (if k = j then 1 else 0) - cnt k (ownP P j) - cnt j (ownP P k) + bothN P j k
theorem exV_A (hP : VP P) {w : List Int} (hl : w.length = P.length) {j : Nat} (hj : j < P.length) : (exV P w).getD j 0 = sg P.length fun k => w.getD k 0 * mA P j k := by
  have e1 : sg P.length (fun q => (mulL P w).getD q 0 * cnt j (ownP P q)) = sg P.length (fun k => w.getD k 0 * cnt j (ownP P k)) - sg P.length fun k => w.getD k 0 * bothN P j k := by
    have e2 : ∀ q, q < P.length → (mulL P w).getD q 0 * cnt j (ownP P q) = w.getD q 0 * cnt j (ownP P q) - sg P.length fun k => w.getD k 0 * (cnt j (ownP P q) * cnt k (ownP P q)) := fun q hq => by
      rw [mulL_get hP hl hq, Int.sub_mul, Int.mul_comm (sg _ _), ← sg_mul]
      congr 1
      refine sg_congr fun k _ => ?_
      rw [Int.mul_left_comm]
    rw [sg_congr e2, sg_sub, sg_comm]
    congr 1
    refine sg_congr fun k _ => ?_
    rw [sg_mul]
    rfl
  rw [exV_get hP hl, mulL_get hP hl hj, e1]
  have e3 : w.getD j 0 = sg P.length fun k => if k = j then w.getD j 0 else 0 := (sg_one hj _).symm
  have e4 : sg P.length (fun k => w.getD k 0 * mA P j k) = sg P.length (fun k => if k = j then w.getD j 0 else 0) - sg P.length (fun k => w.getD k 0 * cnt k (ownP P j)) - sg P.length (fun k => w.getD k 0 * cnt j (ownP P k)) + sg P.length fun k => w.getD k 0 * bothN P j k := by
    rw [← sg_sub, ← sg_sub, ← sg_add]
    refine sg_congr fun k _ => ?_
    unfold mA
    by_cases h : k = j
    · subst h
      rw [if_pos rfl, if_pos rfl, Int.mul_add, Int.mul_sub, Int.mul_sub, Int.mul_one]
    · rw [if_neg h, if_neg h, Int.mul_add, Int.mul_sub, Int.mul_sub, Int.mul_zero]
  rw [e4, ← e3]
  omega
theorem mA_le (hP : VP P) (hS : PSt P) (hU : SU P) (hI : SIn P) {j k : Nat} (h : k ≠ j) : mA P j k ≤ 0 := by
  have := both_le hP hS hU hI (Ne.symm h)
  unfold mA
  rw [if_neg h]
  omega
theorem mA_diag (hP : VP P) (hS : PSt P) {j : Nat} : mA P j j = growN P j := by
  have e : bothN P j j = sg P.length fun q => cnt j (ownP P q) := by
    refine sg_congr fun q _ => ?_
    rcases cnt_01 hP hS j q with e | ⟨e, _⟩ <;> rw [e] <;> rfl
  have e0 : cnt j (ownP P j) = 0 := cnt_none fun r hr => by have := hP j r hr; omega
  unfold mA growN
  rw [if_pos rfl, e, e0]
  omega
theorem grow_pos (j : Nat) : 1 ≤ growN P j := by
  have := sg_nn (n := P.length) (f := fun q => cnt j (ownP P q)) fun q _ => cnt_nn j _
  unfold growN
  omega
/-- what a row that is greater tells of the place that is low -/
theorem ex_diff (hP : VP P) (hS : PSt P) (hU : SU P) (hI : SIn P) {w u : List Int} (hl : w.length = P.length) (hu : u.length = P.length) (hle : ∀ k, k < P.length → w.getD k 0 ≤ u.getD k 0) {j : Nat} (hj : j < P.length) :
    (exV P u).getD j 0 - (exV P w).getD j 0 ≤ (u.getD j 0 - w.getD j 0) * growN P j := by
  rw [exV_A hP hl hj, exV_A hP hu hj, ← sg_sub, ← sg_one hj ((u.getD j 0 - w.getD j 0) * growN P j)]
  refine sg_le fun k hk => ?_
  have h1 := hle k hk
  rw [← Int.sub_mul]
  by_cases h : k = j
  · subst h
    rw [if_pos rfl, mA_diag hP hS]
    exact Int.le_refl _
  · rw [if_neg h]
    exact Int.mul_nonpos_of_nonneg_of_nonpos (by omega) (mA_le hP hS hU hI h)
theorem low_step (hP : VP P) (hS : PSt P) (hU : SU P) (hI : SIn P) {w u : List Int} (hl : w.length = P.length) (hu : u.length = P.length) (hle : ∀ k, k < P.length → w.getD k 0 ≤ u.getD k 0) {j : Nat} (hj : j < P.length) (h0 : 0 ≤ (exV P u).getD j 0) :
    w.getD j 0 + -((exV P w).getD j 0 / growN P j) ≤ u.getD j 0 := by
  have h := ex_diff hP hS hU hI hl hu hle hj
  have g := grow_pos (P := P) j
  have h1 : -((u.getD j 0 - w.getD j 0) * growN P j) ≤ (exV P w).getD j 0 := by omega
  have h2 : -(u.getD j 0 - w.getD j 0) ≤ (exV P w).getD j 0 / growN P j := by
    rw [Int.le_ediv_iff_mul_le (by omega), Int.neg_mul]
    exact h1
  omega
end

/-! what else is known of the points -/
theorem itB_in {P : List (List Int)} {s t : Int} (h : itB P (ti [s, t]) = true) : 0 ≤ s ∧ s < P.length ∧ t ∈ ownP P s.toNat := by
  have h1 : (((decide (0 ≤ s) && decide (s < (P.length : Nat))) && (decide (0 ≤ t) && decide (t < (P.length : Nat)))) && decide (t ∈ ownP P s.toNat)) = true := h
  simp only [Bool.and_eq_true, decide_eq_true_eq] at h1
  exact ⟨h1.1.1.1, h1.1.1.2, h1.2⟩
theorem pts_new {P : List (List Int)} {s t : Int} {r : List (List Int)} (h : ptsB P (ti [s, t] :: r.map ti) = true) : [s, t] ∉ P := by
  have h1 : (itB P (ti [s, t]) && (!decide ([s, t] ∈ P) && ptsB (P ++ [[s, t]]) (r.map ti))) = true := h
  rw [Bool.and_eq_true, Bool.and_eq_true] at h1
  simpa using h1.2.1
theorem own_mem {P : List (List Int)} {p : Nat} (h : p < P.length) : ownP P p ∈ P := by
  unfold ownP
  rw [List.getD_eq_getElem?_getD, List.getElem?_eq_getElem h]
  exact List.getElem_mem h
theorem pts_SI : ∀ (t P : List (List Int)), SU P → SIn P → ptsB P (t.map ti) = true → SU (P ++ t) ∧ SIn (P ++ t)
  | [], P, h1, h2, _ => by rw [List.append_nil]; exact ⟨h1, h2⟩
  | c :: t, P, h1, h2, hp => by
    obtain ⟨g1, g2⟩ := itB_ti hp
    have k1 : SU (P ++ [c]) := fun p q hpq hq s t => by
      rw [List.length_append, List.length_singleton] at hq
      rw [own_snoc, own_snoc, if_neg (by omega)]
      by_cases e : q = P.length
      · rw [if_pos e]
        rintro ⟨e1, rfl⟩
        have := pts_new hp
        rw [← e1] at this
        exact this (own_mem (by omega))
      · rw [if_neg e]
        exact h1 p q hpq (by omega) s t
    have k2 : SIn (P ++ [c]) := fun p s t => by
      rw [own_snoc, own_snoc]
      by_cases e : p = P.length
      · rw [if_pos e]
        rintro rfl
        obtain ⟨a1, a2, a3⟩ := itB_in g1
        rw [if_neg (by omega)]
        exact a3
      · rw [if_neg e]
        intro e1
        have := h2 p s t e1
        by_cases e2 : s.toNat = P.length
        · rw [e2] at this
          unfold ownP at this
          rw [List.getD_eq_getElem?_getD, List.getElem?_eq_none (Nat.le_refl _)] at this
          cases this
        · rw [if_neg e2]
          exact this
    have := pts_SI t (P ++ [c]) k1 k2 g2
    rw [List.append_assoc] at this
    exact this
theorem su_nil : SU [[]] := fun p q hpq hq => by
  have : q < 1 := hq
  omega
theorem sin_nil : SIn [[]] := fun p s t e => by
  exfalso
  unfold ownP at e
  match p with
  | 0 => cases e
  | p + 1 => cases e
/-! a consistent row above -/
section
variable {P : List (List Int)}
/-- K times the values of the first curvette -/
def capL (P : List (List Int)) (K : Int) : List Int := valL P (mdL P ((List.range P.length).map fun q => if q = 0 then K else 0))
theorem capC_get {n : Nat} {K : Int} (k : Nat) : ((List.range n).map fun q => if q = 0 then K else 0).getD k 0 = if k = 0 ∧ k < n then K else 0 := by
  rw [List.getD_eq_getElem?_getD, List.getElem?_map]
  by_cases h : k < n
  · rw [List.getElem?_range h]
    by_cases h0 : k = 0
    · rw [if_pos ⟨h0, h⟩]
      show (if k = 0 then K else 0) = K
      rw [if_pos h0]
    · rw [if_neg (fun z => h0 z.1)]
      show (if k = 0 then K else 0) = 0
      rw [if_neg h0]
  · rw [List.getElem?_eq_none (by rw [List.length_range]; omega), if_neg (fun z => h z.2)]
    rfl
theorem cap_len {K : Int} : (capL P K).length = P.length := by
  unfold capL
  rw [show (valL P (mdL P _)).length = (mdL P _).length from valN_len P _ _]
  exact mdN_len P _ _
theorem cap_ex (hP : VP P) {K : Int} (hK : 0 ≤ K) {j : Nat} : 0 ≤ (exV P (capL P K)).getD j 0 := by
  unfold exV capL
  rw [mul_val hP, ex_md hP (by rw [List.length_map, List.length_range]), capC_get]
  split
  · exact hK
  · exact Int.le_refl 0
theorem cap_get (hP : VP P) (hS : PSt P) {K : Int} (hK : 0 ≤ K) {p : Nat} (hp : p < P.length) : K ≤ (capL P K).getD p 0 ∧ (capL P K).getD p 0 ≤ K * fb (p + 1) := by
  have h0 : 0 < P.length := by omega
  have em : ∀ j, j < P.length → (mdL P ((List.range P.length).map fun q => if q = 0 then K else 0)).getD j 0 = if j = 0 then K else 0 := fun j hj => by
    rw [show (mdL P ((List.range P.length).map fun q => if q = 0 then K else 0)).getD j 0 = sg P.length fun q => ((List.range P.length).map fun q => if q = 0 then K else 0).getD q 0 * (curL P q).getD j 0 from mdN_get P _ hj _]
    rw [sg_congr (g := fun q => if q = 0 then K * (curL P 0).getD j 0 else 0) fun q hq => by
      rw [capC_get]
      by_cases e : q = 0
      · subst e
        rw [if_pos ⟨rfl, hq⟩, if_pos rfl]
      · rw [if_neg (fun z => e z.1), if_neg e, Int.zero_mul], sg_one h0]
    by_cases e : j = 0
    · subst e
      rw [if_pos rfl, curL_p hP h0, Int.mul_one]
    · rw [if_neg e, curL_hi hP h0 (by omega), Int.mul_zero]
  have ev : (capL P K).getD p 0 = K * (curL P p).getD 0 0 := by
    unfold capL
    have hml : (mdL P ((List.range P.length).map fun q => if q = 0 then K else 0)).length = P.length := mdN_len P _ _
    rw [val_get hP hml hp, sg_congr (g := fun j => if j = 0 then K * (curL P p).getD 0 0 else 0) fun j hj => by
      rw [em j hj]
      by_cases e : j = 0
      · subst e
        rw [if_pos rfl, if_pos rfl]
      · rw [if_neg e, if_neg e, Int.zero_mul], sg_one h0]
  have c1 := cur_one hP hS p hp
  have c2 := cur_b hP hS h0 p hp
  rw [ev]
  constructor
  · have := Int.mul_le_mul_of_nonneg_left c1 hK
    omega
  · exact Int.mul_le_mul_of_nonneg_left c2.2 hK
end

/-! unloading, in plain terms -/
def LeR (n : Nat) (a b : List Int) : Prop := ∀ k, k < n → a.getD k 0 ≤ b.getD k 0
structure Cons (P : List (List Int)) (u : List Int) : Prop where
  len : u.length = P.length
  ex : ∀ j, j < P.length → 0 ≤ (exV P u).getD j 0
/-- w is on the way from v to the least consistent row above it -/
structure Btw (P : List (List Int)) (v w : List Int) : Prop where
  len : w.length = P.length
  ge : LeR P.length v w
  le : ∀ u, Cons P u → LeR P.length v u → LeR P.length w u
/-- w is the least consistent row above v -/
structure Least (P : List (List Int)) (v w : List Int) : Prop where
  btw : Btw P v w
  cons : Cons P w
/-- what is known of the points -/
structure PtB (P : List (List Int)) : Prop where
  vp : VP P
  st : PSt P
  su : SU P
  si : SIn P
def upR (P : List (List Int)) (w : List Int) (j : Nat) : List Int := w.set j (w.getD j 0 + -((exV P w).getD j 0 / growN P j))
section
variable {P : List (List Int)} {v w w' : List Int}
theorem btw_self (h : v.length = P.length) : Btw P v v := ⟨h, fun _ _ => Int.le_refl _, fun _ _ h => h⟩
theorem up_pos {j : Nat} (hx : (exV P w).getD j 0 < 0) : 1 ≤ -((exV P w).getD j 0 / growN P j) := by
  have g := grow_pos (P := P) j
  have := Int.ediv_neg_of_neg_of_pos hx (show 0 < growN P j by omega)
  omega
theorem up_get {j k : Nat} (hj : j < w.length) : (upR P w j).getD k 0 = if j = k then w.getD j 0 + -((exV P w).getD j 0 / growN P j) else w.getD k 0 := by
  unfold upR
  exact getD_set hj
theorem btw_step (p : PtB P) (h : Btw P v w) {j : Nat} (hj : j < P.length) (hx : (exV P w).getD j 0 < 0) : Btw P v (upR P w j) := by
  have hn := up_pos hx
  refine ⟨by unfold upR; rw [List.length_set]; exact h.len, fun k hk => ?_, fun u hu hv k hk => ?_⟩
  · have := h.ge k hk
    rw [up_get (by rw [h.len]; exact hj)]
    by_cases e : j = k
    · subst e
      rw [if_pos rfl]
      omega
    · rw [if_neg e]
      exact this
  · have hw := h.le u hu hv
    rw [up_get (by rw [h.len]; exact hj)]
    by_cases e : j = k
    · subst e
      rw [if_pos rfl]
      exact low_step p.vp p.st p.su p.si h.len hu.len hw hj (hu.ex j hj)
    · rw [if_neg e]
      exact hw k hk
theorem least_uniq (h : Least P v w) (h2 : Least P v w') : w = w' := by
  refine ext_getD (by rw [h.btw.len, h2.btw.len]) fun j hj => ?_
  rw [h.btw.len] at hj
  have a := h.btw.le w' h2.cons h2.btw.ge j hj
  have b := h2.btw.le w h.cons h.btw.ge j hj
  omega
/-- a consistent row between v and the least one is that one -/
theorem least_only (h : Least P v w) {r : List Int} (hr : Cons P r) (h1 : LeR P.length v r) (h2 : LeR P.length r w) : r = w := by
  refine ext_getD (by rw [hr.len, h.btw.len]) fun j hj => ?_
  rw [hr.len] at hj
  have a := h.btw.le r hr h1 j hj
  have b := h2 j hj
  omega
theorem least_self (h : Cons P v) : Least P v v := ⟨btw_self h.len, h⟩
/-- how far it is still -/
def farN (P : List (List Int)) (K : Int) (w : List Int) : Nat := (sg P.length fun k => (capL P K).getD k 0 - w.getD k 0).toNat
theorem cap_cons (p : PtB P) {K : Int} (hK : 0 ≤ K) : Cons P (capL P K) := ⟨cap_len, fun _ _ => cap_ex p.vp hK⟩
theorem btw_cap (p : PtB P) {K : Int} (hK : 0 ≤ K) (hv : ∀ k, k < P.length → v.getD k 0 ≤ K) (h : Btw P v w) : LeR P.length w (capL P K) :=
  h.le _ (cap_cons p hK) fun k hk => Int.le_trans (hv k hk) (cap_get p.vp p.st hK hk).1
theorem far_less (p : PtB P) {K : Int} (hK : 0 ≤ K) (hv : ∀ k, k < P.length → v.getD k 0 ≤ K) (h : Btw P v w) {j : Nat} (hj : j < P.length) (hx : (exV P w).getD j 0 < 0) : farN P K (upR P w j) < farN P K w := by
  have h2 := btw_cap p hK hv (btw_step p h hj hx)
  have hn := up_pos hx
  have nn : 0 ≤ sg P.length fun k => (capL P K).getD k 0 - (upR P w j).getD k 0 := sg_nn fun k hk => by have := h2 k hk; omega
  have e : sg P.length (fun k => (capL P K).getD k 0 - w.getD k 0) = sg P.length (fun k => (capL P K).getD k 0 - (upR P w j).getD k 0) + -((exV P w).getD j 0 / growN P j) := sg_upd (r := j) hj (fun k _ hk => by rw [up_get (by rw [h.len]; exact hj), if_neg (Ne.symm hk)]) (by rw [up_get (by rw [h.len]; exact hj), if_pos rfl]; omega)
  unfold farN
  omega
end

/-! own_meetings, word for word -/
def incF (s : List Int) (r : Int) : List Int := s.set r.toNat (s.getD r.toNat 0 + 1)
def gmL (n : Nat) (d : List (List Int)) : List Int := d.foldl (fun s own => own.foldl incF s) (List.replicate n 1)
theorem inc_len : ∀ (own s : List Int), (own.foldl incF s).length = s.length
  | [], s => rfl
  | r :: own, s => by
    show (own.foldl incF (incF s r)).length = s.length
    rw [inc_len own]
    unfold incF
    rw [List.length_set]
theorem gm_len (n : Nat) (d : List (List Int)) : (gmL n d).length = n := by
  have g : ∀ (d : List (List Int)) (s : List Int), (d.foldl (fun s own => own.foldl incF s) s).length = s.length := fun d => by
    induction d with
    | nil => intro s; rfl
    | cons a r ih => intro s; rw [List.foldl_cons, ih, inc_len]
  unfold gmL
  rw [g, List.length_replicate]
theorem gm_snoc (n : Nat) (d : List (List Int)) (own : List Int) : gmL n (d ++ [own]) = own.foldl incF (gmL n d) := by
  unfold gmL
  rw [List.foldl_append]
  rfl
theorem om2_ok {P : List (List Int)} (hP : VP P) (h60 : P.length ≤ 1000) {M : Mem} : Fown_meetings [.d (tis P)] M = .ok (.fr ((gmL P.length P).map .int)) M := by
  have mq : ∀ M, binop .Mult (opnd M (.fr [.int 1])) (opnd M (.d (.int (((P.map ti).length : Nat) : Int)))) M = .ok (.fr ((List.replicate P.length 1).map D.int)) M := fun M => by
    rw [mul_l1 (by omega) (by rw [List.length_map]; omega), List.length_map, Int.toNat_natCast, List.map_replicate]
  have hb : ∀ own ∈ P, ∀ q ∈ own, 0 ≤ q ∧ q < P.length := fun own ho q hq => by
    obtain ⟨i, hi, rfl⟩ := List.getElem_of_mem ho
    have ei : ownP P i = P[i] := by
      unfold ownP
      rw [List.getD_eq_getElem?_getD, List.getElem?_eq_getElem hi]
      rfl
    rw [← ei] at hq
    have := hP i q hq
    omega
  obtain ⟨env', M', e, o2, o3, rfl, rfl⟩ := for_pre (φ := ti) (body := (sSeq2 (sFor (sSeq (sVar 2)) (.name 3) (sSeq2 (sAugI .Add (sVar 1) (sVar 3) (sCon (.int 1))) sSkip)) sSkip)) (tg := .name 2)
    (I := fun d env M' => ∃ (o2 o3 : Option AV), env = [some (.d (tis P)), some (.cell M.length), o2, o3] ∧ M' = M ++ [some (.l ((gmL P.length d).map .int))]) P [] (fun d own r ed env M' h => by
      obtain ⟨o2, o3, rfl, rfl⟩ := h
      have hs := gm_len P.length d
      have hown : own ∈ P := by
        have ed2 : P = d ++ own :: r := by rw [← ed]; rfl
        rw [ed2]
        exact List.mem_append.mpr (.inr List.mem_cons_self)
      rw [gm_snoc]
      generalize gmL P.length d = s at *
      obtain ⟨env', M', e, o3', rfl, rfl⟩ := for_pre (φ := D.int) (body := (sSeq2 (sAugI .Add (sVar 1) (sVar 3) (sCon (.int 1))) sSkip)) (tg := .name 3)
        (I := fun d env M' => ∃ (o3 : Option AV), env = [some (.d (tis P)), some (.cell M.length), some (.d (ti own)), o3] ∧ M' = M ++ [some (.l ((d.foldl incF s).map .int))]) own [] (fun d q r ed env M' h => by
          obtain ⟨o3, rfl, rfl⟩ := h
          have ht := inc_len d s
          have hq : q ∈ own := by
            have ed2 : own = d ++ q :: r := by rw [← ed]; rfl
            rw [ed2]
            exact List.mem_append.mpr (.inr List.mem_cons_self)
          have hq := hb own hown q hq
          rw [List.foldl_append]
          generalize d.foldl incF s = t at *
          have e : sAugI .Add (sVar 1) (sVar 3) (sCon (.int 1)) [some (.d (tis P)), some (.cell M.length), some (.d (ti own)), some (.d (.int q))] (M ++ [some (.l (t.map D.int))]) = .ok (.next [some (.d (tis P)), some (.cell M.length), some (.d (ti own)), some (.d (.int q))]) ((M ++ [some (MC.l (t.map D.int))]).set M.length (some (MC.l ((t.map D.int).set q.toNat (.int (t.getD q.toNat 0 + 1)))))) :=
            augI_eq (x := t.getD q.toNat 0) (xs := t.map D.int) rfl rfl rfl last_get ⟨hq.1, by rw [List.length_map]; omega⟩ (by rw [List.getElem?_map, List.getD_eq_getElem?_getD, List.getElem?_eq_getElem (by omega)]; rfl) rfl
          rw [last_set, set_map] at e
          exact ⟨_, _, _, rfl, el_start (e_stmt e (e_skip rfl)), _, rfl, rfl⟩) [some (.d (tis P)), some (.cell M.length), some (.d (ti own)), o3] (M ++ [some (.l (s.map .int))]) ⟨o3, rfl, rfl⟩
      refine ⟨_, [some (.d (tis P)), some (.cell M.length), some (.d (ti own)), o3'], _, rfl, el_start ?_, _, _, rfl, rfl⟩
      repeat' (first | (wtm_at "mpA") | (wtm_at "mp0"))
      refine (congrArg (fun z => el z _ _) (e : forL _ _ _ _ _ _ = _)).trans ?_
      rfl) [some (.d (tis P)), some (.cell M.length), none, none] (M ++ [some (.l ((List.replicate P.length 1).map .int))]) ⟨none, none, rfl, rfl⟩
  unfold Fown_meetings
  refine e_fn rfl ?_
  unfold Town_meetings
  repeat' (first | (wtm_at "mpA") | (with_reducible apply p_bin (mq _)) | (wtm_at "mp0"))
  refine (congrArg (fun z => el z _ _) (e : forL _ _ _ _ _ _ = _)).trans ?_
  exact r_c
theorem inc_get (j : Nat) : ∀ (own s : List Int), (∀ r ∈ own, 0 ≤ r ∧ r < s.length) → (own.foldl incF s).getD j 0 = s.getD j 0 + cnt j own
  | [], s, _ => by
    show s.getD j 0 = s.getD j 0 + 0
    omega
  | r :: own, s, h => by
    have hr := h r List.mem_cons_self
    have hl : (incF s r).length = s.length := by unfold incF; rw [List.length_set]
    show (own.foldl incF (incF s r)).getD j 0 = _
    rw [inc_get j own _ (fun r hr => by rw [hl]; exact h r (.tail _ hr)), cnt_cons]
    unfold incF
    rw [getD_set (by omega)]
    by_cases e : r.toNat = j
    · subst e
      rw [if_pos rfl, if_pos rfl]
      omega
    · rw [if_neg e, if_neg e, Int.zero_add]
theorem gm_get {P : List (List Int)} (hP : VP P) {j : Nat} (hj : j < P.length) : (gmL P.length P).getD j 0 = growN P j := by
  have g : ∀ i, i ≤ P.length → (gmL P.length (P.take i)).getD j 0 = 1 + sg i fun q => cnt j (ownP P q) := fun i => by
    induction i with
    | zero =>
      intro _
      show (List.replicate P.length (1 : Int)).getD j 0 = 1 + 0
      rw [List.getD_eq_getElem?_getD, List.getElem?_replicate, if_pos hj]
      rfl
    | succ i ih =>
      intro hi
      have e : P.take (i + 1) = P.take i ++ [ownP P i] := by
        rw [List.take_succ]
        unfold ownP
        rw [List.getD_eq_getElem?_getD, List.getElem?_eq_getElem (by omega)]
        rfl
      rw [e, gm_snoc, inc_get j _ _ (fun r hr => by have := hP i r hr; rw [gm_len]; omega), ih (by omega), sg_succ]
      omega
  have := g P.length (Nat.le_refl _)
  rw [List.take_length] at this
  exact this

/-! a while loop that ends by a return -/
theorem while_r {c : SB} {body : SS} (I : Env → Mem → Prop) (Q : AV → Mem → Prop) (μ : Env → Mem → Nat)
    (step : ∀ env M, I env M → c env M = .ok true M ∧ ((∃ v M', body env M = .ok (.ret v) M' ∧ Q v M') ∨ ∃ env' M', body env M = .ok (.next env') M' ∧ I env' M' ∧ μ env' M' < μ env M)) :
    ∀ (n : Nat) (env : Env) (M : Mem), I env M → μ env M < n → ∃ v M', whileF c body n env M = .ok (.ret v) M' ∧ Q v M'
  | 0, _, _, _, h => absurd h (Nat.not_lt_zero _)
  | n + 1, env, M, hI, h => by
    obtain ⟨h1, h2⟩ := step env M hI
    rcases h2 with ⟨v, M', e, q⟩ | ⟨env', M', e, hI', hm⟩
    · refine ⟨v, M', ?_, q⟩
      unfold whileF
      rw [h1]
      simp only [Out.bind, if_true, e]
    · obtain ⟨v, M2, e2, q⟩ := while_r I Q μ step n env' M' hI' (by omega)
      refine ⟨v, M2, ?_, q⟩
      unfold whileF
      rw [h1]
      simp only [Out.bind, if_true, e]
      exact e2
theorem while_rb {c : SB} {body : SS} {env : Env} {M : Mem} (I : Env → Mem → Prop) (Q : AV → Mem → Prop) (μ : Env → Mem → Nat)
    (step : ∀ env M, I env M → c env M = .ok true M ∧ ((∃ v M', body env M = .ok (.ret v) M' ∧ Q v M') ∨ ∃ env' M', body env M = .ok (.next env') M' ∧ I env' M' ∧ μ env' M' < μ env M)) (hI : I env M) (hμ : μ env M < 2 ^ 200) :
    ∃ v M', sWhile c body env M = .ok (.ret v) M' ∧ Q v M' := by
  unfold sWhile
  exact while_r I Q μ step bigF env M hI (Nat.lt_of_lt_of_le hμ big_le)
/-! the places that are low -/
def lowL (P : List (List Int)) (w : List Int) : List Nat := (List.range P.length).filter fun j => decide ((exV P w).getD j 0 < 0)
theorem low_mem {P : List (List Int)} {w : List Int} {j : Nat} (h : j ∈ lowL P w) : j < P.length ∧ (exV P w).getD j 0 < 0 := by
  unfold lowL at h
  rw [List.mem_filter, List.mem_range] at h
  exact ⟨h.1, by simpa using h.2⟩
theorem low_nil {P : List (List Int)} {w : List Int} (hl : w.length = P.length) (h : lowL P w = []) : Cons P w := ⟨hl, fun j hj => by
  by_cases h0 : 0 ≤ (exV P w).getD j 0
  · exact h0
  · have : j ∈ lowL P w := by
      unfold lowL
      rw [List.mem_filter, List.mem_range]
      exact ⟨hj, by simpa using h0⟩
    rw [h] at this
    cases this⟩

/-! two cells at the end -/
theorem c2_get0 {M : Mem} {a b : MC} : (M ++ [some a] ++ [some b])[M.length]? = some (some a) := by
  rw [List.getElem?_append_left (by rw [List.length_append]; exact Nat.lt_succ_self _)]
  exact lastM_get
theorem c2_get1 {M : Mem} {a b : MC} : (M ++ [some a] ++ [some b])[M.length + 1]? = some (some b) := by
  have h := lastM_get (M := M ++ [some a]) (c := b)
  rw [List.length_append] at h
  exact h
theorem c2_set0 {M : Mem} {a b c : MC} : (M ++ [some a] ++ [some b]).set M.length (some c) = M ++ [some c] ++ [some b] := by
  rw [List.append_assoc, List.set_append_right _ _ (Nat.le_refl _), Nat.sub_self, List.append_assoc]
  rfl
theorem c2_set1 {M : Mem} {a b c : MC} : (M ++ [some a] ++ [some b]).set (M.length + 1) (some c) = M ++ [some a] ++ [some c] := by
  have h := lastM_set (M := M ++ [some a]) (c := b) (d := c)
  rw [List.length_append] at h
  exact h
theorem gk1 {M : Mem} {a : MC} {xs : List D} : (cellOf? (M ++ [some a] ++ [some (MC.l xs)]) (.cell (M.length + 1))).isSome = true := by
  unfold cellOf?
  dsimp only
  rw [c2_get1]
  rfl
theorem tup_two1 {β : Type} {res : Out β} {k : AV → Mem → Out β} {M : Mem} {xs ys : List D} (h : k (.d (.tup [.lst ys, .lst xs])) (M ++ [none] ++ [none]) = res) : tupK [.cell (M.length + 1), .cell M.length] (M ++ [some (MC.l xs)] ++ [some (MC.l ys)]) (fun xs => .d (.tup xs)) k = res := by
  have h := tup_two (M := M) (xs := xs) (ys := ys) h
  rw [List.length_append] at h
  exact h
def intD : D → Int
  | .int i => i
  | _ => 0
def cellW (M : Mem) (c : Nat) : List Int := match M[c]? with
  | some (some (.l xs)) => xs.map intD
  | _ => []
theorem cellW_eq {M : Mem} {c : Nat} {w : List Int} (h : M[c]? = some (some (.l (w.map .int)))) : cellW M c = w := by
  unfold cellW
  rw [h]
  show (w.map D.int).map intD = w
  rw [List.map_map]
  exact List.map_id w
theorem sg_len {n : Nat} {f : Nat → Int} (h : ∀ i, i < n → f i ≤ 1) : sg n f ≤ n := by
  induction n with
  | zero => exact Int.le_refl _
  | succ n ih =>
    have h1 := ih fun i hi => h i (by omega)
    have h2 := h n (by omega)
    rw [sg_succ]
    omega
theorem grow_le {P : List (List Int)} (p : PtB P) (j : Nat) : growN P j ≤ P.length + 1 := by
  have h := sg_len (n := P.length) (f := fun q => cnt j (ownP P q)) fun q _ => by
    rcases cnt_01 p.vp p.st j q with e | ⟨e, _⟩ <;> omega
  unfold growN
  omega
theorem low_len {P : List (List Int)} {w : List Int} : (lowL P w).length ≤ P.length := by
  unfold lowL
  have := List.length_filter_le (fun j => decide ((exV P w).getD j 0 < 0)) (List.range P.length)
  rw [List.length_range] at this
  exact this
abbrev stE (P : List (List Int)) (v : List Int) (M : Mem) (o5 o6 o7 : Option AV) : Env := [some (.d (tis P)), some (.d (ti v)), some (.cell M.length), some (.d (.lst ((gmL P.length P).map .int))), some (.cell (M.length + 1)), o5, o6, o7, none]
section
variable {P : List (List Int)} {v w : List Int} {M : Mem}
theorem exV_i {j : Nat} (hj : j < P.length) (hl : w.length = P.length) : ∀ M, idx (.d (.lst ((exV P w).map D.int))) (.d (.int (j : Nat))) M = .ok (.d (.int ((exV P w).getD j 0))) M := fun M => by
  have h : (exV P w).length = P.length := by rw [exV_len, hl]
  rw [idx_li (by omega) (by omega), Int.toNat_natCast]
theorem gm_i {j : Nat} (hP : VP P) (hj : j < P.length) : ∀ M, idx (.d (.lst ((gmL P.length P).map D.int))) (.d (.int (j : Nat))) M = .ok (.d (.int (growN P j))) M := fun M => by
  have h := gm_len P.length P
  rw [idx_li (by omega) (by omega), Int.toNat_natCast, gm_get hP hj]
theorem low_comp {β : Type} {kx : Exc → Mem → Out β} {res : Out β} {k : AV → Mem → Out β} {M : Mem} {env : Env} {f : SE} {c : SB} {tg : Tg} {vs : List Nat} (hl : w.length = P.length) (h60 : P.length ≤ 1000)
    (h : ∀ j : Nat, j < P.length → ∃ e, tg.bind (.int (j : Nat)) (wipeE env vs) = some e ∧ c e M = .ok (decide ((exV P w).getD j 0 < 0)) M ∧ f e M = .ok (.d (.int (j : Nat))) M) (q : k (.fr ((lowL P w).map fun j => .int (j : Nat))) M = res) : el (compL f c tg vs [] env (rngL 0 (P.map ti).length) [] M) k kx = res := by
  rw [List.length_map]
  refine e_compRF (fun j => .int (j : Nat)) (fun j => decide ((exV P w).getD j 0 < 0)) (by omega) (fun j hj => ?_) q
  obtain ⟨e, h1, h2, h3⟩ := h j hj
  exact ⟨e, h1, h2, fun _ => ⟨_, h3, rfl⟩⟩
theorem sb2_ok (p : PtB P) (hl : w.length = P.length) (h60 : P.length ≤ 1000) (ho : ∀ p, (ownP P p).length ≤ 1000) {st : List D} (hst : st.length < 1000000) {o5 o6 o7 : Option AV} :
    (lowL P w = [] ∧ SB2 (stE P v M o5 o6 o7) (M ++ [some (.l (w.map .int))] ++ [some (.l st)]) = .ok (.ret (.d (.tup [.lst st, .lst (w.map .int)]))) (M ++ [none] ++ [none])) ∨
    ∃ (j : Nat) (s : D) (p5 p6 p7 : Option AV), j < P.length ∧ (exV P w).getD j 0 < 0 ∧ SB2 (stE P v M o5 o6 o7) (M ++ [some (.l (w.map .int))] ++ [some (.l st)]) = .ok (.next (stE P v M p5 p6 p7)) (M ++ [some (.l ((upR P w j).map .int))] ++ [some (.l (st ++ [s]))]) := by
  have he : (sArgs Fexcesses_from (sCons (sVar 0) (sCons (sVar 2) sNil))) (stE P v M o5 o6 o7) (M ++ [some (.l (w.map .int))] ++ [some (.l st)]) = .ok (.fr ((exV P w).map .int)) (M ++ [some (.l (w.map .int))] ++ [some (.l st)]) := ef_ok (P := P) (v := w) (R := .cell M.length) rfl (cellR_c c2_get0) p.vp hl h60 ho
  have hlr : (P.map ti).length ≤ 1000000 := by rw [List.length_map]; omega
  have hcomp : ∀ (o6 o7 : Option AV), (sComp (sRng (sCons (sArgs lenOp (sCons (sVar 0) sNil)) sNil)) (.name 8) (sB (sCmp .Lt (sIdx (sVar 5) (sVar 8)) (sCon (.int 0)))) (sVar 8) (([("p", 8)] : List (Str × Nat)).map (·.2))) (stE P v M (some (.d (.lst ((exV P w).map .int)))) o6 o7) (M ++ [some (.l (w.map .int))] ++ [some (.l st)]) = .ok (.fr ((lowL P w).map fun j => .int (j : Nat))) (M ++ [some (.l (w.map .int))] ++ [some (.l st)]) := fun o6 o7 => by
    refine el_start ?_
    repeat' (first | (wtm_at "mpA") | (wtm_at "mp0"))
    refine low_comp hl (by omega) (fun j hj => ?_) rfl
    have i1 := exV_i hj hl
    refine ⟨_, rfl, el_start ?_, rfl⟩
    repeat' (first | (wtm_at "mpA") | (with_reducible apply p_idx (i1 _)) | (wtm_at "mp1"))
    rfl
  cases hL : lowL P w with
  | nil =>
    refine .inl ⟨rfl, el_start ?_⟩
    unfold SB2
    refine e_seq (e_asg (e_is he (a_f (k_next ?_))))
    refine e_seq (e_asg (e_is (hcomp _ _) (a_f (k_next ?_))))
    rw [hL]
    repeat' (first | (wtm_at "mpA") | (with_reducible refine tup_two1 ?_) | (wtm_at "mp1"))
    rfl
  | cons j r =>
    have hm := low_mem (P := P) (w := w) (j := j) (by rw [hL]; exact List.mem_cons_self)
    have hll := low_len (P := P) (w := w)
    have g1 := grow_pos (P := P) j
    have g2 := grow_le p j
    refine .inr ⟨j, .tup [.int (j : Nat), .int (-((exV P w).getD j 0 / growN P j))], some (.d (.lst ((exV P w).map .int))), some (.d (.lst (D.int (j : Nat) :: r.map fun j => D.int (j : Nat)))), some (.d (.int (-((exV P w).getD j 0 / growN P j)))), hm.1, hm.2, el_start ?_⟩
    have i0 : ∀ M, idx (.d (.lst (D.int (j : Nat) :: r.map fun j => D.int (j : Nat)))) (.d (.int 0)) M = .ok (.d (.int (j : Nat))) M := fun M => idx_lst atI_head
    have i1 := exV_i hm.1 hl
    have i2 := gm_i p.vp hm.1
    unfold SB2
    refine e_seq (e_asg (e_is he (a_f (k_next ?_))))
    refine e_seq (e_asg (e_is (hcomp _ _) (a_f (k_next ?_))))
    rw [hL, List.map_cons]
    have hlen : decide (((D.int (j : Nat) :: r.map fun j => D.int (j : Nat)).length : Int) = 0) = false := decide_eq_false (by rw [List.length_cons]; omega)
    have ea : ∀ n : Int, sAugI .Add (sVar 2) (sIdx (sVar 6) (sCon (.int 0))) (sVar 7) (stE P v M (some (.d (.lst ((exV P w).map .int)))) (some (.d (.lst (D.int (j : Nat) :: r.map fun j => D.int (j : Nat))))) (some (.d (.int n)))) (M ++ [some (.l (w.map .int))] ++ [some (.l st)]) = .ok (.next (stE P v M (some (.d (.lst ((exV P w).map .int)))) (some (.d (.lst (D.int (j : Nat) :: r.map fun j => D.int (j : Nat))))) (some (.d (.int n))))) (M ++ [some (.l ((w.set j (w.getD j 0 + n)).map .int))] ++ [some (.l st)]) := fun n => by
      have h := augI_eq (op := .Add) (fo := sVar 2) (fi := sIdx (sVar 6) (sCon (.int 0))) (fe := sVar 7) (env := stE P v M (some (.d (.lst ((exV P w).map .int)))) (some (.d (.lst (D.int (j : Nat) :: r.map fun j => D.int (j : Nat))))) (some (.d (.int n)))) (M := M ++ [some (.l (w.map .int))] ++ [some (.l st)]) (c := M.length) (i := (j : Nat)) (x := w.getD j 0) (y := n) (z := w.getD j 0 + n) (xs := w.map D.int) rfl (by
        refine el_start ?_
        repeat' (first | (wtm_at "mpA") | (with_reducible apply p_idx (i0 _)) | (wtm_at "mp1"))
        rfl) rfl c2_get0 ⟨by omega, by rw [List.length_map]; omega⟩ (by rw [Int.toNat_natCast, List.getElem?_map, List.getD_eq_getElem?_getD, List.getElem?_eq_getElem (by omega)]; rfl) rfl
      rw [c2_set0, set_map, Int.toNat_natCast] at h
      exact h
    repeat' (first | (wtm_at "mpA") | (with_reducible apply p_idx (i0 _)) | (with_reducible apply p_idx (i1 _)) | (with_reducible apply p_idx (i2 _)) | (with_reducible refine e_condFe hlen ?_) | (wtm_at "mp1"))
    refine e_is (ea _) (k_next ?_)
    repeat' (first | (wtm_at "mpA") | (with_reducible apply p_idx (i0 _)) | (with_reducible apply gk_t gk1) | (wtm_at "mp1"))
    refine m_app c2_get1 hst ?_
    rw [c2_set1]
    rfl
theorem steps_gen (p : PtB P) (hl : v.length = P.length) (h60 : P.length ≤ 1000) (ho : ∀ p, (ownP P p).length ≤ 1000) {K : Int} (hK : 0 ≤ K) (hv : ∀ k, k < P.length → v.getD k 0 ≤ K) (hf : farN P K v ≤ 900000) : ∃ w, Least P v w ∧ ∀ M, ∃ st, Fsteps_from [.d (tis P), .d (ti v)] M = .ok (.d (.tup [.lst st, .lst (w.map .int)])) M := by
  have main : ∀ M, ∃ st w, Least P v w ∧ Fsteps_from [.d (tis P), .d (ti v)] M = .ok (.d (.tup [.lst st, .lst (w.map .int)])) M := fun M => by
    obtain ⟨av, M', e, st, w, rfl, rfl, hw⟩ := while_rb (c := sB (sCon (.bl true))) (body := SB2) (env := stE P v M none none none) (M := M ++ [some (.l (v.map .int))] ++ [some (.l [])])
      (fun env M' => ∃ w st o5 o6 o7, env = stE P v M o5 o6 o7 ∧ M' = M ++ [some (.l (w.map .int))] ++ [some (.l st)] ∧ Btw P v w ∧ st.length + farN P K w ≤ farN P K v)
      (fun av M' => ∃ st w, av = .d (.tup [.lst st, .lst (w.map .int)]) ∧ M' = M ++ [none] ++ [none] ∧ Least P v w)
      (fun _ M' => farN P K (cellW M' M.length)) (fun env M' h => by
        obtain ⟨w, st, o5, o6, o7, rfl, rfl, hb, hs⟩ := h
        have hc : ∀ (w : List Int) (st : List D), cellW (M ++ [some (MC.l (w.map .int))] ++ [some (MC.l st)]) M.length = w := fun w st => cellW_eq c2_get0
        refine ⟨rfl, ?_⟩
        rcases sb2_ok (v := v) (w := w) (M := M) p hb.len h60 ho (st := st) (by omega) (o5 := o5) (o6 := o6) (o7 := o7) with ⟨h0, e⟩ | ⟨j, s, p5, p6, p7, hj, hx, e⟩
        · exact .inl ⟨_, _, e, st, w, rfl, rfl, hb, low_nil hb.len h0⟩
        · have hf2 := far_less p hK hv hb hj hx
          refine .inr ⟨_, _, e, ⟨_, _, p5, p6, p7, rfl, rfl, btw_step p hb hj hx, by rw [List.length_append, List.length_singleton]; omega⟩, ?_⟩
          rw [hc, hc]
          exact hf2) ⟨v, [], none, none, none, rfl, rfl, btw_self hl, by rw [List.length_nil]; omega⟩ (by
        show farN P K (cellW _ _) < _
        rw [cellW_eq c2_get0]
        omega)
    refine ⟨st, w, hw, ?_⟩
    have hg := om2_ok (P := P) p.vp h60 (M := M ++ [some (.l (v.map .int))])
    unfold Fsteps_from
    refine e_fn rfl ?_
    unfold Tsteps_from
    repeat' (first | (wtm_at "mpA") | (with_reducible apply e_call lst_tup) | (with_reducible apply e_call hg) | (wtm_at "mp0"))
    rw [show (M ++ [some (MC.l (v.map D.int))]).length = M.length + 1 by rw [List.length_append]; rfl]
    refine e_is (r := sWhile (sB (sCon (.bl true))) SB2 _ _) e ?_
    show endK M.length (.ret (.d (.tup [.lst st, .lst (w.map .int)]))) (M ++ [none] ++ [none]) = _
    rw [List.append_assoc]
    exact r_dA
  obtain ⟨st, w, hw, _⟩ := main []
  refine ⟨w, hw, fun M => ?_⟩
  obtain ⟨st2, w2, hw2, e⟩ := main M
  rw [least_uniq hw hw2]
  exact ⟨st2, e⟩
end

/-! the law's own unloading -/
section
variable {P : List (List Int)} {v w : List Int}
theorem lmulR_ok (p : PD P) {R : AV} {M : Mem} (hs : R.settle = R) (hR : VecR R v M) (hl : v.length = P.length) : F_law_multiplicities [.d (tis P), R] M = .ok (.fr ((mulL P v).map .int)) M := by
  have h60 : P.length ≤ 1000 := by have := p.le; omega
  have hlr : (P.map ti).length ≤ 1000000 := by rw [List.length_map]; omega
  unfold F_law_multiplicities
  refine e_fn rfl ?_
  unfold initEnv
  rw [List.map_cons, List.map_cons, hs]
  unfold T_law_multiplicities
  repeat' (first | (wtm_at "mpA") | (wtm_at "mp0"))
  rw [List.length_map]
  refine e_compR (fun k => .int (v.getD k 0 - ((ownP P k).map (gI v)).sum)) (by omega) (fun k hk => ?_) ?_
  · have i1 := hR k (by omega)
    have i2 : ∀ M, idx (.d (tis P)) (.d (.int (k : Nat))) M = .ok (.d (ti (ownP P k))) M := fun M => idx_pt hk M
    have ho1 := p.own k
    refine ⟨_, rfl, .d (.int (v.getD k 0 - ((ownP P k).map (gI v)).sum)), el_start ?_, rfl⟩
    repeat' (first | (wtm_at "mpA") | (with_reducible refine e_varR rfl hs ?_) | (with_reducible apply p_idx i1) | (with_reducible apply p_idx (i2 _)) | (wtm_at "mp0"))
    refine e_compA (φ := D.int) (ownP P k) (fun q => .int (gI v q)) (fun q hq => ?_) (by omega) ?_
    · have hq := p.vp k q hq
      have i3 : idx R (.d (.int q)) M = .ok (.d (.int (gI v q))) M := by
        have := hR q.toNat (by omega)
        rw [show ((q.toNat : Nat) : Int) = q by omega] at this
        exact this
      refine ⟨_, rfl, .d (.int (gI v q)), el_start ?_, rfl⟩
      repeat' (first | (wtm_at "mpA") | (with_reducible refine e_varR rfl hs ?_) | (with_reducible apply p_idx i3) | (wtm_at "mp1"))
      rfl
    · have e : (ownP P k).map (fun q => D.int (gI v q)) = ((ownP P k).map (gI v)).map .int := by rw [List.map_map]; rfl
      rw [e]
      repeat' (first | (wtm_at "mpA") | (with_reducible apply e_call sum_ints) | (wtm_at "mp1"))
      try rfl
  · have e : (List.range P.length).map (fun k => D.int (v.getD k 0 - ((ownP P k).map (gI v)).sum)) = (mulL P v).map .int := by
      unfold mulL
      rw [List.map_map, hl]
      rfl
    rw [e]
    repeat' (first | (wtm_at "mpA") | (wtm_at "mp1"))
    try exact r_f
/-- how many points name p -/
theorem named_len (hP : VP P) (hS : PSt P) (j : Nat) : (((List.range P.length).filter fun q => decide ((j : Int) ∈ ownP P q)).length : Int) = sg P.length fun q => cnt j (ownP P q) := by
  have g : ∀ n, (((List.range n).filter fun q => decide ((j : Int) ∈ ownP P q)).length : Int) = sg n fun q => cnt j (ownP P q) := fun n => by
    induction n with
    | zero => rfl
    | succ n ih =>
      rw [List.range_succ, List.filter_append, List.length_append, sg_succ, ← ih, cnt_nd (st_nd hP hS n) fun r hr => (hP n r hr).1]
      by_cases h : (j : Int) ∈ ownP P n
      · rw [List.filter_cons_of_pos (by rw [decide_eq_true h]), decide_eq_true h, if_pos rfl]
        rfl
      · rw [List.filter_cons_of_neg (by rw [decide_eq_false h]; decide), decide_eq_false h, if_neg (by decide)]
        rfl
  exact g _
def ManyE : SE := (sComp (sRng (sCons (sArgs lenOp (sCons (sVar 1) sNil)) sNil)) (.name 7) sYes (sBin .Add (sCon (.int 1)) (sArgs lenOp (sCons (sComp (sRng (sCons (sArgs lenOp (sCons (sVar 1) sNil)) sNil)) (.name 8) (sB (sCmp .In (sVar 7) (sIdx (sVar 1) (sVar 8)))) (sVar 8) (([("q", 8)] : List (Str × Nat)).map (·.2))) sNil))) (([("p", 7)] : List (Str × Nat)).map (·.2)))
abbrev dnE (P : List (List Int)) (v : List Int) (Mt : Mem) (o4 o5 o6 o7 : Option AV) : Env := [some (.cell 0), some (.d (tis P)), some (.d (ti v)), some (.cell (Mt.length + 1)), o4, o5, o6, o7, none]
abbrev grD (P : List (List Int)) : D := .lst (((List.range P.length).map (growN P)).map .int)
theorem many_ok (p : PD P) (pb : PtB P) {Mt M : Mem} : ManyE (dnE P v Mt none none none none) M = .ok (.fr (((List.range P.length).map (growN P)).map .int)) M := by
  have h60 := p.le
  have hlr : (P.map ti).length ≤ 1000000 := by rw [List.length_map]; omega
  refine el_start ?_
  unfold ManyE
  repeat' (first | (wtm_at "mpA") | (wtm_at "mp0"))
  rw [List.length_map]
  refine e_compR (fun j => .int (growN P j)) (by omega) (fun j hj => ?_) ?_
  · refine ⟨_, rfl, .d (.int (growN P j)), el_start ?_, rfl⟩
    repeat' (first | (wtm_at "mpA") | (wtm_at "mp0"))
    rw [List.length_map]
    refine e_compRF (fun q => .int (q : Nat)) (fun q => decide ((j : Int) ∈ ownP P q)) (by omega) (fun q hq => ?_) ?_
    · have i2 : ∀ M, idx (.d (tis P)) (.d (.int (q : Nat))) M = .ok (.d (ti (ownP P q))) M := fun M => idx_pt hq M
      have i3 : ∀ M, cmpop .In (.d (.int (j : Nat))) (.d (ti (ownP P q))) M = _ := fun M => in_ti _ _ M
      refine ⟨_, rfl, el_start ?_, fun _ => ⟨_, rfl, rfl⟩⟩
      repeat' (first | (wtm_at "mpA") | (with_reducible apply p_idx (i2 _)) | (with_reducible apply p_cmpE (i3 _)) | (wtm_at "mp1"))
      try rfl
    · have e := named_len p.vp pb.st j
      repeat' (first | (wtm_at "mpA") | (wtm_at "mp1"))
      rw [List.length_map, e]
      rfl
  · rw [List.map_map]
    rfl
def DB : SS := (sSeq2 (sAsg 5 false (sArgs F_law_excess (sCons (sVar 1) (sCons (sArgs F_law_multiplicities (sCons (sVar 1) (sCons (sVar 3) sNil))) sNil))))
 (sSeq2 (sAsg 6 false (sComp (sRng (sCons (sArgs lenOp (sCons (sVar 1) sNil)) sNil)) (.name 7) (sB (sCmp .Lt (sIdx (sVar 5) (sVar 7)) (sCon (.int 0)))) (sVar 7) (([("p", 7)] : List (Str × Nat)).map (·.2))))
 (sSeq2 (sIfS (sB (sCmp .Eq (sArgs lenOp (sCons (sVar 6) sNil)) (sCon (.int 0))))
 (sSeq2 (sRet (sArgs tupleOp (sCons (sVar 3) sNil)))
 sSkip)
 sSkip)
 (sSeq2 (sAsg 7 false (sIdx (sVar 6) (sArgs F_law_take (sCons (sVar 0) (sCons (sArgs lenOp (sCons (sVar 6) sNil)) sNil)))))
 (sSeq2 (sSetI (sVar 3) (sVar 7) (sBin .Add (sIdx (sVar 3) (sVar 7)) (sBin .FloorDiv (sBin .Sub (sBin .Sub (sIdx (sVar 4) (sVar 7)) (sCon (.int 1))) (sIdx (sVar 5) (sVar 7))) (sIdx (sVar 4) (sVar 7)))))
 sSkip)))))
theorem ceil_eq {x g : Int} (hg : 1 ≤ g) : (g - 1 - x) / g = -(x / g) := by
  have h1 := Int.emod_add_mul_ediv x g
  have h2 := Int.emod_nonneg x (show g ≠ 0 by omega)
  have h3 := Int.emod_lt_of_pos x (show 0 < g by omega)
  rw [show g - 1 - x = (g - 1 - x % g) + -(x / g) * g by rw [Int.neg_mul, Int.mul_comm]; omega, Int.add_mul_ediv_right _ _ (by omega), Int.ediv_eq_zero_of_lt (by omega) (by omega)]
  omega
theorem db_ok (p : PD P) (pb : PtB P) (hl : w.length = P.length) {a b : Int} {Mt : Mem} {o5 o6 o7 : Option AV} :
    (lowL P w = [] ∧ DB (dnE P v Mt (some (.d (grD P))) o5 o6 o7) (St a b (Mt ++ [some (.l (w.map .int))])) = .ok (.ret (.d (ti w))) (St a b (Mt ++ [some (.l (w.map .int))]))) ∨
    ∃ (j : Nat) (p5 p6 p7 : Option AV) (a' b' : Int), j < P.length ∧ (exV P w).getD j 0 < 0 ∧ DB (dnE P v Mt (some (.d (grD P))) o5 o6 o7) (St a b (Mt ++ [some (.l (w.map .int))])) = .ok (.next (dnE P v Mt (some (.d (grD P))) p5 p6 p7)) (St a' b' (Mt ++ [some (.l ((upR P w j).map .int))])) := by
  have h60 := p.le
  have hlr : (P.map ti).length ≤ 1000000 := by rw [List.length_map]; omega
  have hc : ∀ a b, (St a b (Mt ++ [some (.l (w.map .int))]))[Mt.length + 1]? = some (some (.l (w.map D.int))) := fun a b => by
    show (some (MC.l [D.int a, D.int b]) :: (Mt ++ [some (.l (w.map D.int))]))[Mt.length + 1]? = _
    rw [List.getElem?_cons_succ]
    exact lastM_get
  have hm := lmulR_ok (v := w) p (R := .cell (Mt.length + 1)) rfl (cellR_c (hc a b)) hl
  have hx : ∀ M, F_law_excess [.d (tis P), .d (.lst ((mulL P w).map .int))] M = .ok (.fr ((exV P w).map .int)) M := fun M => lex_ok (row_l _) p.vp (by rw [mul_len, hl]) (by omega)
  have he : (sArgs F_law_excess (sCons (sVar 1) (sCons (sArgs F_law_multiplicities (sCons (sVar 1) (sCons (sVar 3) sNil))) sNil))) (dnE P v Mt (some (.d (grD P))) o5 o6 o7) (St a b (Mt ++ [some (.l (w.map .int))])) = .ok (.fr ((exV P w).map .int)) (St a b (Mt ++ [some (.l (w.map .int))])) := by
    refine el_start ?_
    repeat' (first | (wtm_at "mpA") | (with_reducible apply e_call hm) | (with_reducible apply e_call (hx _)) | (wtm_at "mp1"))
    rfl
  have hcomp : ∀ (o6 o7 : Option AV), (sComp (sRng (sCons (sArgs lenOp (sCons (sVar 1) sNil)) sNil)) (.name 7) (sB (sCmp .Lt (sIdx (sVar 5) (sVar 7)) (sCon (.int 0)))) (sVar 7) (([("p", 7)] : List (Str × Nat)).map (·.2))) (dnE P v Mt (some (.d (grD P))) (some (.d (.lst ((exV P w).map .int)))) o6 o7) (St a b (Mt ++ [some (.l (w.map .int))])) = .ok (.fr ((lowL P w).map fun j => .int (j : Nat))) (St a b (Mt ++ [some (.l (w.map .int))])) := fun o6 o7 => by
    refine el_start ?_
    repeat' (first | (wtm_at "mpA") | (wtm_at "mp0"))
    refine low_comp hl (by omega) (fun j hj => ?_) rfl
    have i1 := exV_i hj hl
    refine ⟨_, rfl, el_start ?_, rfl⟩
    repeat' (first | (wtm_at "mpA") | (with_reducible apply p_idx (i1 _)) | (wtm_at "mp1"))
    rfl
  by_cases h0 : lowL P w = []
  · refine .inl ⟨h0, el_start ?_⟩
    unfold DB
    refine e_seq (e_asg (e_is he (a_f (k_next ?_))))
    refine e_seq (e_asg (e_is (hcomp _ _) (a_f (k_next ?_))))
    rw [h0]
    repeat' (first | (wtm_at "mpA") | (with_reducible apply e_call tup_cS) | (wtm_at "mp1"))
    rfl
  · have hll := low_len (P := P) (w := w)
    have hpos : 0 < (lowL P w).length := List.length_pos_iff.mpr h0
    obtain ⟨r, a1, b1, e1, f1⟩ := take_ok (m := ((lowL P w).length : Nat)) (a := a) (b := b) (Mt := Mt ++ [some (.l (w.map .int))]) (by omega)
    have hm := low_mem (P := P) (w := w) (j := (lowL P w)[r.toNat]'(by omega)) (List.getElem_mem _)
    have i0 : ∀ M, idx (.d (.lst ((lowL P w).map fun j => D.int (j : Nat)))) (.d (.int r)) M = .ok (.d (.int (((lowL P w)[r.toNat]'(by omega) : Nat) : Int))) M := fun M => by
      refine idx_lst (atI_int f1.1 ?_)
      rw [List.getElem?_map, List.getElem?_eq_getElem (by omega)]
      rfl
    generalize (lowL P w)[r.toNat]'(by omega) = j at *
    have g1 := grow_pos (P := P) j
    have g2 := grow_le pb j
    refine .inr ⟨j, some (.d (.lst ((exV P w).map .int))), some (.d (.lst ((lowL P w).map fun j => .int (j : Nat)))), some (.d (.int (j : Nat))), a1, b1, hm.1, hm.2, el_start ?_⟩
    have i1 := exV_i hm.1 hl
    have i2 : ∀ M, idx (.d (grD P)) (.d (.int (j : Nat))) M = .ok (.d (.int (growN P j))) M := fun M => by
      refine idx_lst (atI_nat ?_)
      rw [List.getElem?_map, List.getElem?_map, List.getElem?_range hm.1]
      rfl
    have i3 : idx (.cell (Mt.length + 1)) (.d (.int (j : Nat))) (St a1 b1 (Mt ++ [some (.l (w.map .int))])) = .ok (.d (.int (w.getD j 0))) (St a1 b1 (Mt ++ [some (.l (w.map .int))])) := cellR_c (hc a1 b1) j (by omega)
    have hlen : ∀ M, lenOp [.d (.lst ((lowL P w).map fun j => D.int (j : Nat)))] M = .ok (.d (.int (lowL P w).length)) M := fun M => by
      show Out.ok (AV.d (.int (((lowL P w).map fun j => D.int (j : Nat)).length : Nat))) M = _
      rw [List.length_map]
    have hz : decide (((lowL P w).length : Int) = 0) = false := decide_eq_false (by omega)
    have ev : (sBin .Add (sIdx (sVar 3) (sVar 7)) (sBin .FloorDiv (sBin .Sub (sBin .Sub (sIdx (sVar 4) (sVar 7)) (sCon (.int 1))) (sIdx (sVar 5) (sVar 7))) (sIdx (sVar 4) (sVar 7)))) (dnE P v Mt (some (.d (grD P))) (some (.d (.lst ((exV P w).map .int)))) (some (.d (.lst ((lowL P w).map fun j => .int (j : Nat))))) (some (.d (.int (j : Nat))))) (St a1 b1 (Mt ++ [some (.l (w.map .int))])) = .ok (.d (.int (w.getD j 0 + -((exV P w).getD j 0 / growN P j)))) (St a1 b1 (Mt ++ [some (.l (w.map .int))])) := by
      rw [← ceil_eq g1]
      refine el_start ?_
      repeat' (first | (wtm_at "mpA") | (with_reducible apply p_idx i3) | (with_reducible apply p_idx (i2 _)) | (with_reducible apply p_idx (i1 _)) | (wtm_at "mp1"))
      rfl
    have e := setI_eq (fo := sVar 3) (fi := sVar 7) (env := dnE P v Mt (some (.d (grD P))) (some (.d (.lst ((exV P w).map .int)))) (some (.d (.lst ((lowL P w).map fun j => .int (j : Nat))))) (some (.d (.int (j : Nat))))) (c := Mt.length + 1) (i := (j : Nat)) (xs := w.map D.int) rfl rfl ev (hc a1 b1) ⟨by omega, by rw [List.length_map]; omega⟩
    have hs : (St a1 b1 (Mt ++ [some (.l (w.map .int))])).set (Mt.length + 1) (some (.l ((upR P w j).map .int))) = St a1 b1 (Mt ++ [some (.l ((upR P w j).map .int))]) := by
      show (some (MC.l [D.int a1, D.int b1]) :: (Mt ++ [some (.l (w.map D.int))])).set (Mt.length + 1) _ = _
      rw [List.set_cons_succ, lastM_set]
    rw [Int.toNat_natCast, set_map] at e
    replace e := e.trans (congrArg (fun z => Out.ok _ z) hs)
    unfold DB
    refine e_seq (e_asg (e_is he (a_f (k_next ?_))))
    refine e_seq (e_asg (e_is (hcomp _ _) (a_f (k_next ?_))))
    have hif : ∀ M, (sIfS (sB (sCmp .Eq (sArgs lenOp (sCons (sVar 6) sNil)) (sCon (.int 0)))) (sSeq2 (sRet (sArgs tupleOp (sCons (sVar 3) sNil))) sSkip) sSkip) (dnE P v Mt (some (.d (grD P))) (some (.d (.lst ((exV P w).map .int)))) (some (.d (.lst ((lowL P w).map fun j => .int (j : Nat))))) o7) M = .ok (.next (dnE P v Mt (some (.d (grD P))) (some (.d (.lst ((exV P w).map .int)))) (some (.d (.lst ((lowL P w).map fun j => .int (j : Nat))))) o7)) M := fun M => by
      refine el_start ?_
      repeat' (first | (wtm_at "mpA") | (with_reducible apply e_call (hlen _)) | (with_reducible refine e_condFe hz ?_) | (wtm_at "mp1"))
      rfl
    have h7 : (sIdx (sVar 6) (sArgs F_law_take (sCons (sVar 0) (sCons (sArgs lenOp (sCons (sVar 6) sNil)) sNil)))) (dnE P v Mt (some (.d (grD P))) (some (.d (.lst ((exV P w).map .int)))) (some (.d (.lst ((lowL P w).map fun j => .int (j : Nat))))) o7) (St a b (Mt ++ [some (.l (w.map .int))])) = .ok (.d (.int (j : Nat))) (St a1 b1 (Mt ++ [some (.l (w.map .int))])) := by
      refine el_start ?_
      repeat' (first | (wtm_at "mpA") | (with_reducible apply e_call (hlen _)) | (with_reducible apply e_call e1) | (with_reducible apply p_idx (i0 _)) | (wtm_at "mp1"))
      rfl
    refine e_stmt (hif _) ?_
    refine e_seq (e_asg (e_is h7 (a_d (k_next ?_))))
    refine e_stmt e ?_
    rfl
theorem done_ok (p : PD P) (pb : PtB P) (hl : v.length = P.length) {K : Int} (hK : 0 ≤ K) (hv : ∀ k, k < P.length → v.getD k 0 ≤ K) (hf : farN P K v ≤ 900000) {a b : Int} {Mt : Mem} :
    ∃ w a' b', F_law_done [.cell 0, .d (tis P), .d (ti v)] (St a b Mt) = .ok (.d (ti w)) (St a' b' Mt) ∧ Least P v w := by
  obtain ⟨av, M', e, w, a', b', rfl, rfl, hw⟩ := while_rb (c := sB (sCon (.bl true))) (body := DB) (env := dnE P v Mt (some (.d (grD P))) none none none) (M := St a b (Mt ++ [some (.l (v.map .int))]))
    (fun env M' => ∃ w a' b' o5 o6 o7, env = dnE P v Mt (some (.d (grD P))) o5 o6 o7 ∧ M' = St a' b' (Mt ++ [some (.l (w.map .int))]) ∧ Btw P v w ∧ farN P K w ≤ farN P K v)
    (fun av M' => ∃ w a' b', av = .d (ti w) ∧ M' = St a' b' (Mt ++ [some (.l (w.map .int))]) ∧ Least P v w)
    (fun _ M' => farN P K (cellW M' (Mt.length + 1))) (fun env M' h => by
      obtain ⟨w, a', b', o5, o6, o7, rfl, rfl, hb, hf⟩ := h
      have hc : ∀ a b (w : List Int), cellW (St a b (Mt ++ [some (.l (w.map .int))])) (Mt.length + 1) = w := fun a b w => cellW_eq (by
        show (some (MC.l [D.int a, D.int b]) :: (Mt ++ [some (.l (w.map D.int))]))[Mt.length + 1]? = _
        rw [List.getElem?_cons_succ]
        exact lastM_get)
      refine ⟨rfl, ?_⟩
      rcases db_ok (v := v) (w := w) p pb hb.len (a := a') (b := b') (Mt := Mt) (o5 := o5) (o6 := o6) (o7 := o7) with ⟨h0, e⟩ | ⟨j, p5, p6, p7, a2, b2, hj, hx, e⟩
      · exact .inl ⟨_, _, e, w, a', b', rfl, rfl, hb, low_nil hb.len h0⟩
      · have hf2 := far_less pb hK hv hb hj hx
        refine .inr ⟨_, _, e, ⟨_, a2, b2, p5, p6, p7, rfl, rfl, btw_step pb hb hj hx, by omega⟩, ?_⟩
        rw [hc, hc]
        exact hf2) ⟨v, a, b, none, none, none, rfl, rfl, btw_self hl, Nat.le_refl _⟩ (by
      have e0 : cellW (St a b (Mt ++ [some (.l (v.map .int))])) (Mt.length + 1) = v := cellW_eq (by
        show (some (MC.l [D.int a, D.int b]) :: (Mt ++ [some (.l (v.map D.int))]))[Mt.length + 1]? = _
        rw [List.getElem?_cons_succ]
        exact lastM_get)
      have e1 : farN P K (cellW (St a b (Mt ++ [some (.l (v.map .int))])) (Mt.length + 1)) ≤ 900000 := by rw [e0]; exact hf
      exact Nat.lt_of_le_of_lt e1 (by decide))
  refine ⟨w, a', b', ?_, hw⟩
  have hm := many_ok (v := v) p pb (Mt := Mt) (M := St a b (Mt ++ [some (.l (v.map .int))]))
  unfold F_law_done
  refine e_fn rfl ?_
  unfold T_law_done
  have h3 : (sArgs listOp (sCons (sVar 2) sNil)) (initEnv 9 [.cell 0, .d (tis P), .d (ti v)]) (St a b Mt) = .ok (.fr (v.map .int)) (St a b Mt) := rfl
  refine e_seq (e_asg (e_is h3 (a_m (k_next ?_))))
  refine e_seq (e_asg (e_is hm (a_f (k_next ?_))))
  refine e_seq (e_is (r := sWhile (sB (sCon (.bl true))) DB _ _) e ?_)
  exact r_dS
end

/-! what is known of the points -/
structure PA3 (P : List (List Int)) : Prop where
  pd : PD P
  pb : PtB P
  le : P.length ≤ 12
theorem pa3_ok {t : List (List Int)} (ht : ptsB [[]] (t.map ti) = true) (hl : t.length + 1 ≤ 12) : PA3 ([] :: t) := by
  have hP : VPn ([] :: t) := pts_VP t [[]] vpn_nil ht
  have hS : PSt ([] :: t) := pts_St t [[]] (by decide) vpn_nil st_nil ht
  have hI : SU ([] :: t) ∧ SIn ([] :: t) := pts_SI t [[]] (fun p q h1 h2 s t => by
    have : q < 1 := h2
    omega) (fun p s t h => by
    have e : ownP [[]] p = [] := by
      unfold ownP
      cases p with
      | zero => rfl
      | succ p => rfl
    rw [e] at h
    cases h) ht
  have hvp : VP ([] :: t) := fun p q hq => (hP p).2 q hq
  exact ⟨⟨hvp, by rw [List.length_cons]; omega, by rw [List.length_cons]; omega, fun p => by have := (hP p).1; omega, good_ok (by omega) ht⟩, ⟨hvp, hS, hI.1, hI.2⟩, by rw [List.length_cons]; omega⟩
/-- rows that the law draws -/
structure RB (P : List (List Int)) (v : List Int) : Prop where
  len : v.length = P.length
  bd : ∀ k, k < P.length → -6 ≤ v.getD k 0 ∧ v.getD k 0 ≤ 20
theorem all_getD {c : List Int} {p : Int → Prop} (h : ∀ k, k < c.length → p (c.getD k 0)) : ∀ x ∈ c, p x := fun x hx => by
  obtain ⟨i, hi, rfl⟩ := List.getElem_of_mem hx
  have := h i hi
  rw [List.getD_eq_getElem?_getD, List.getElem?_eq_getElem hi] at this
  exact this
theorem getD_all {c : List Int} {p : Int → Prop} (h : ∀ x ∈ c, p x) {k : Nat} (hk : k < c.length) : p (c.getD k 0) := by
  rw [List.getD_eq_getElem?_getD, List.getElem?_eq_getElem hk]
  exact h _ (List.getElem_mem hk)
theorem sg_max {n : Nat} {f : Nat → Int} {C : Int} (hC : ∀ i, i < n → f i ≤ C) : sg n f ≤ n * C := by
  induction n with
  | zero => rw [sg_zero]; omega
  | succ n ih =>
    have h1 := ih fun i hi => hC i (by omega)
    have h2 := hC n (by omega)
    rw [sg_succ, Int.natCast_succ, Int.add_mul]
    omega
theorem fb12 : fb 12 = 144 := by decide
section
variable {P : List (List Int)} {v w : List Int}
theorem cap20 (h : PA3 P) {k : Nat} (hk : k < P.length) : 20 ≤ (capL P 20).getD k 0 ∧ (capL P 20).getD k 0 ≤ 2880 := by
  have h1 := cap_get h.pb.vp h.pb.st (K := 20) (by decide) hk
  have h2 := fb_mono (a := k + 1) (b := 12) (by have := h.le; omega)
  rw [fb12] at h2
  omega
theorem far20 (h : PA3 P) (r : RB P v) : farN P 20 v ≤ 900000 := by
  have h1 := sg_max (n := P.length) (f := fun k => (capL P 20).getD k 0 - v.getD k 0) (C := 2886) fun k hk => by
    have := cap20 h hk
    have := r.bd k hk
    omega
  have := h.le
  unfold farN
  omega
theorem RB.le20 (r : RB P v) : ∀ k, k < P.length → v.getD k 0 ≤ 20 := fun k hk => (r.bd k hk).2
theorem least_bd (h : PA3 P) (r : RB P v) (hw : Least P v w) {k : Nat} (hk : k < P.length) : -6 ≤ w.getD k 0 ∧ w.getD k 0 ≤ 2880 := by
  have h1 := btw_cap h.pb (K := 20) (by decide) r.le20 hw.btw k hk
  have h2 := cap20 h hk
  have h3 := hw.btw.ge k hk
  have h4 := r.bd k hk
  omega
theorem wb_of {C : Int} (hl : w.length = P.length) (hC : C ≤ 100000) (h : ∀ k, k < P.length → -C ≤ w.getD k 0 ∧ w.getD k 0 ≤ C) : WB w := all_getD (p := fun m => -100000 ≤ m ∧ m ≤ 100000) fun k hk => by
  have := h k (by omega)
  omega
theorem RB.wb (r : RB P v) : WB v := wb_of r.len (C := 20) (by decide) fun k hk => by have := r.bd k hk; omega
theorem least_wb (h : PA3 P) (r : RB P v) (hw : Least P v w) : WB w := wb_of hw.btw.len (C := 2880) (by decide) fun k hk => by have := least_bd h r hw hk; omega
theorem RB.gw (h : PA3 P) (r : RB P v) : GoodW P v := goodW_ok (by have := h.le; omega) r.len r.wb
theorem least_gw (h : PA3 P) (r : RB P v) (hw : Least P v w) : GoodW P w := goodW_ok (by have := h.le; omega) hw.btw.len (least_wb h r hw)
theorem mul_bd (h : PA3 P) (r : RB P v) (hw : Least P v w) : ∀ x ∈ mulL P w, -1000000 ≤ x ∧ x ≤ 1000000 := all_getD fun k hk => by
  rw [mul_len, hw.btw.len] at hk
  have hb := fun j (hj : j < P.length) => least_bd h r hw hj
  have e : (mulL P w).getD k 0 = w.getD k 0 - ((ownP P k).map (gI w)).sum := by
    unfold mulL
    rw [List.getD_eq_getElem?_getD, List.getElem?_map, List.getElem?_range (by rw [hw.btw.len]; exact hk)]
    rfl
  rw [e]
  have h0 := hb k hk
  rcases h.pb.st k hk with ⟨_, e⟩ | ⟨s, e, h1⟩ | ⟨s, t, e, h1⟩
  · rw [e]
    show -1000000 ≤ w.getD k 0 - 0 ∧ w.getD k 0 - 0 ≤ 1000000
    omega
  · rw [e]
    have h2 : -6 ≤ gI w s ∧ gI w s ≤ 2880 := hb s.toNat (by omega)
    show -1000000 ≤ w.getD k 0 - (gI w s + 0) ∧ w.getD k 0 - (gI w s + 0) ≤ 1000000
    omega
  · rw [e]
    have h2 : -6 ≤ gI w s ∧ gI w s ≤ 2880 := hb s.toNat (by omega)
    have h3 : -6 ≤ gI w t ∧ gI w t ≤ 2880 := hb t.toNat (by omega)
    show -1000000 ≤ w.getD k 0 - (gI w s + (gI w t + 0)) ∧ w.getD k 0 - (gI w s + (gI w t + 0)) ≤ 1000000
    omega
theorem fits_iff (hl : w.length = P.length) (h0 : 0 < P.length) : decide (0 ≤ minI (exV P w)) = true ↔ Cons P w := by
  have hx : (exV P w).length = P.length := by rw [exV_len, hl]
  rw [decide_eq_true_eq]
  constructor
  · intro h
    refine ⟨hl, fun j hj => ?_⟩
    have := getD_all (c := exV P w) (p := fun x => minI (exV P w) ≤ x) (fun x hx => minI_le hx) (k := j) (by omega)
    omega
  · intro h
    exact minI_nn (all_getD (p := fun x => 0 ≤ x) fun k hk => h.ex k (by omega))
theorem fits_ok (p : PD P) (hl : w.length = P.length) {M : Mem} : F_law_fits [.d (tis P), .d (ti w)] M = .ok (.d (.bl (decide (0 ≤ minI (exV P w))))) M := by
  have h1 : ∀ M, F_law_multiplicities [.d (tis P), .d (ti w)] M = _ := fun M => lmul_ok p hl (M := M)
  have h2 : ∀ M, F_law_excess [.d (tis P), .d (.lst ((mulL P w).map .int))] M = .ok (.fr ((exV P w).map .int)) M := fun M => lex_ok (row_l _) p.vp (by rw [mul_len, hl]) (by have := p.le; omega)
  have h3 : ∀ M, minOp2 [.d (.lst ((exV P w).map .int))] M = _ := fun M => min_li (by rw [exV_len, hl]; exact p.pos) (M := M)
  unfold F_law_fits
  refine e_fn rfl ?_
  unfold T_law_fits
  repeat' (first | (wtm_at "mpA") | (with_reducible apply e_call (h1 _)) | (with_reducible apply e_call (h2 _)) | (with_reducible apply e_call (h3 _)) | (wtm_at "mp1"))
  try exact r_d
theorem lnum_ok (p : PD P) (hl : w.length = P.length) (hb : ∀ x ∈ mulL P w, -1000000 ≤ x ∧ x ≤ 1000000) {M : Mem} : F_law_number [.d (tis P), .d (ti w)] M = .ok (.d (.int (numI (mulL P w)))) M := by
  have h1 : ∀ M, F_law_multiplicities [.d (tis P), .d (ti w)] M = _ := fun M => lmul_ok p hl (M := M)
  have hl2 : (mulL P w).length ≤ 1000 := by rw [mul_len, hl]; have := p.le; omega
  unfold F_law_number
  refine e_fn rfl ?_
  unfold T_law_number
  repeat' (first | (wtm_at "mpA") | (with_reducible apply e_call (h1 _)) | (wtm_at "mp0"))
  refine e_compA (φ := D.int) (mulL P w) (fun x => .int (x * (x + 1) / 2)) (fun x hx => ?_) (by omega) ?_
  · refine ⟨_, rfl, .d (.int (x * (x + 1) / 2)), el_start ?_, rfl⟩
    have hb := hb x hx
    have mo : mulOk x (x + 1) = true := mul_s hb.1 hb.2
    repeat' (first | (wtm_at "mpA") | (with_reducible refine p_mul mo ?_) | (with_reducible refine p_div (by decide) (div_s (by decide) (by decide)) ?_) | (wtm_at "mp1"))
    rfl
  · have e : (mulL P w).map (fun x => D.int (x * (x + 1) / 2)) = ((mulL P w).map fun x => x * (x + 1) / 2).map .int := by rw [List.map_map]; rfl
    rw [e]
    repeat' (first | (wtm_at "mpA") | (with_reducible apply e_call sum_ints) | (wtm_at "mp1"))
    try exact r_d
theorem unl_ok (p : PD P) (g : GoodW P v) (hs : ∀ M, ∃ st, Fsteps_from [.d (tis P), .d (ti v)] M = .ok (.d (.tup [.lst st, .lst (w.map .int)])) M) (M : Mem) : Funloaded [.d (tis P), .d (ti v)] M = .ok (.d (ti w)) M := by
  have h := cw_ok p.good g
  obtain ⟨st, h1⟩ := hs M
  have i1 : ∀ M, idx (.d (.tup [.lst st, .lst (w.map D.int)])) (.d (.int 1)) M = .ok (.d (.lst (w.map .int))) M := fun M => rfl
  unfold Funloaded
  refine e_fn rfl ?_
  unfold Tunloaded
  repeat' (first | (wtm_at "mpA") | (with_reducible apply e_call (h _)) | (with_reducible apply e_call h1) | (with_reducible apply p_idx (i1 _)) | (with_reducible apply e_call tup_lst) | (wtm_at "mp1"))
theorem ic_gen (p : PD P) (d : VD P v) (hl : w.length = P.length) (hs : ∀ M, ∃ st, Fsteps_from [.d (tis P), .d (ti v)] M = .ok (.d (.tup [.lst st, .lst (w.map .int)])) M) (hb : ∀ x ∈ mulL P w, -1000000 ≤ x ∧ x ≤ 1000000) (M : Mem) : Fideal_codimension [.d (tis P), .d (ti v)] M = .ok (.d (.int (numI (mulL P w)))) M := by
  have h : ∀ M, Fcheck_values [.d (tis P), .d (ti v)] M = _ := fun M => cv_ok p d (M := M)
  obtain ⟨st, h1⟩ := hs M
  have h2 : ∀ M, Fmultiplicities_from [.d (tis P), .d (.lst (w.map .int))] M = .ok (.fr ((mulL P w).map .int)) M := fun M => mf_ok rfl (cellR_d (row_l w) M) p.vp hl (by have := p.le; omega) p.own
  have h3 : ∀ M, Fcodimension_of [.d (tis P), .d (.lst (w.map .int))] M = .ok (.d (.int (numI (mulL P w)))) M := fun M => by
    have hl : (mulL P w).length ≤ 1000 := by rw [mul_len, hl]; have := p.le; omega
    unfold Fcodimension_of
    refine e_fn rfl ?_
    unfold Tcodimension_of
    repeat' (first | (wtm_at "mpA") | (with_reducible apply e_call (h2 _)) | (wtm_at "mp0"))
    refine e_compA (φ := D.int) (mulL P w) (fun x => .int (x * (x + 1) / 2)) (fun x hx => ?_) (by omega) ?_
    · refine ⟨_, rfl, .d (.int (x * (x + 1) / 2)), el_start ?_, rfl⟩
      have hb := hb x hx
      have mo : mulOk x (x + 1) = true := mul_s hb.1 hb.2
      repeat' (first | (wtm_at "mpA") | (with_reducible refine p_mul mo ?_) | (with_reducible refine p_div (by decide) (div_s (by decide) (by decide)) ?_) | (wtm_at "mp1"))
      rfl
    · have e : (mulL P w).map (fun x => D.int (x * (x + 1) / 2)) = ((mulL P w).map fun x => x * (x + 1) / 2).map .int := by rw [List.map_map]; rfl
      rw [e]
      repeat' (first | (wtm_at "mpA") | (with_reducible apply e_call sum_ints) | (wtm_at "mp1"))
      try exact r_d
  have i1 : ∀ M, idx (.d (.tup [.lst st, .lst (w.map D.int)])) (.d (.int 1)) M = .ok (.d (.lst (w.map .int))) M := fun M => rfl
  unfold Fideal_codimension
  refine e_fn rfl ?_
  unfold Tideal_codimension
  repeat' (first | (wtm_at "mpA") | (with_reducible apply e_call (h _)) | (with_reducible apply e_call h1) | (with_reducible apply p_idx (i1 _)) | (with_reducible apply e_call (h3 _)) | (wtm_at "mp1"))
theorem ic_neg (p : PD P) (hl : v.length = P.length) (hw : WB v) (hn : ∃ x ∈ v, x < 0) {M : Mem} : Fideal_codimension [.d (tis P), .d (ti v)] M = .exc Mal M := by
  have h : ∀ M, Fcheck_values [.d (tis P), .d (ti v)] M = _ := fun M => cv_neg p hl hw hn (M := M)
  unfold Fideal_codimension
  refine e_fn rfl ?_
  unfold Tideal_codimension
  repeat' (first | (wtm_at "mpA") | (with_reducible apply e_callX (h _)) | (wtm_at "mp1"))
theorem toldU {a b x : D} (h : ∀ M, Funloaded [.d a, .d b] M = .ok (.d x) M) {M : Mem} : F_law_told [.d (.fn "unloaded"), .d (.tup [a, b])] M = .ok (.d (.tup [.str "told", x])) M := by
  unfold F_law_told
  refine e_fn rfl ?_
  unfold T_law_told
  repeat' (first | (wtm_at "mpA") | (with_reducible apply e_call (h _)) | (wtm_at "mp1"))
theorem toldUM {a b : D} (h : ∀ M, Funloaded [.d a, .d b] M = .exc Mal M) {M : Mem} : F_law_told [.d (.fn "unloaded"), .d (.tup [a, b])] M = .ok (.d (.tup [.str "malformed", .non])) M := by
  unfold F_law_told
  refine e_fn rfl ?_
  unfold T_law_told
  repeat' (first | (wtm_at "mpA") | (with_reducible refine e_callX (h _) ?_) | (with_reducible apply h_some hd_mal) | (wtm_at "mp1"))
theorem tellU (p : PD P) (g : GoodW P v) (hw : w.length ≤ 90000) (hs : ∀ M, ∃ st, Fsteps_from [.d (tis P), .d (ti v)] M = .ok (.d (.tup [.lst st, .lst (w.map .int)])) M) (M : Mem) : F_law_tells [.d (.fn "unloaded"), .d (.tup [tis P, ti v]), .d (ti w)] M = .ok (.d (.bl true)) M :=
  tells_ok (fun M => toldU (unl_ok p g hs)) (fun M => sameT hw) M
end
theorem ints_of {p : Int → Prop} : ∀ xs : List D, (∀ x ∈ xs, ∃ i, x = .int i ∧ p i) → ∃ c : List Int, xs = c.map .int ∧ ∀ i ∈ c, p i
  | [], _ => ⟨[], rfl, fun i h => nomatch h⟩
  | x :: r, h => by
    obtain ⟨i, rfl, hi⟩ := h x List.mem_cons_self
    obtain ⟨c, rfl, hc⟩ := ints_of r fun y hy => h y (.tail _ hy)
    exact ⟨i :: c, rfl, fun j hj => by
      rcases List.mem_cons.mp hj with rfl | hj
      · exact hi
      · exact hc j hj⟩
def DrE : SE := (sComp (sRng (sCons (sVar 1) sNil)) (.name 4) sYes (sBin .Add (sVar 2) (sArgs F_law_take (sCons (sVar 0) (sCons (sBin .Add (sBin .Sub (sVar 3) (sVar 2)) (sCon (.int 1))) sNil)))) (([("p", 4)] : List (Str × Nat)).map (·.2)))
theorem drawn_ok {n : Nat} {lo hi a b : Int} {Mt : Mem} (hn : n ≤ 1000) (h : -1000 ≤ lo ∧ lo ≤ hi ∧ hi ≤ 1000) : ∃ v a' b', F_law_drawn [.cell 0, .d (.int (n : Nat)), .d (.int lo), .d (.int hi)] (St a b Mt) = .ok (.d (ti v)) (St a' b' Mt) ∧ v.length = n ∧ ∀ x ∈ v, lo ≤ x ∧ x ≤ hi := by
  obtain ⟨xs, M', e, ⟨a', b', rfl⟩, h3, h4⟩ := comp_ex (f := (sBin .Add (sVar 2) (sArgs F_law_take (sCons (sVar 0) (sCons (sBin .Add (sBin .Sub (sVar 3) (sVar 2)) (sCon (.int 1))) sNil))))) (c := sYes) (tg := .name 4) (vs := (([("p", 4)] : List (Str × Nat)).map (·.2))) (env := [some (.cell 0), some (.d (.int (n : Nat))), some (.d (.int lo)), some (.d (.int hi)), none]) (I := fun M' => ∃ a' b', M' = St a' b' Mt) (Pr := fun x => ∃ i : Int, x = .int i ∧ lo ≤ i ∧ i ≤ hi) (rngL 0 n) [] (St a b Mt) ⟨a, b, rfl⟩ (fun d hd M' hI => by
      obtain ⟨a1, b1, rfl⟩ := hI
      obtain ⟨k, hk, rfl⟩ := rngL_mem hd
      obtain ⟨r1, a2, b2, e1, f1⟩ := take_ok (m := hi - lo + 1) (a := a1) (b := b1) (Mt := Mt) (by omega)
      refine ⟨_, rfl, rfl, .d (.int (lo + r1)), St a2 b2 Mt, .int (lo + r1), el_start ?_, rfl, ⟨lo + r1, rfl, by omega, by omega⟩, a2, b2, rfl⟩
      repeat' (first | (wtm_at "mpA") | (with_reducible apply e_call e1) | (wtm_at "mp1"))
      try rfl) (by rw [rngL_len]; show 0 + _ ≤ _; omega)
  obtain ⟨d, rfl, hd⟩ := ints_of xs h4
  refine ⟨d, a', b', ?_, by rw [List.length_map, rngL_len] at h3; exact h3, hd⟩
  have e0 : DrE [some (.cell 0), some (.d (.int (n : Nat))), some (.d (.int lo)), some (.d (.int hi)), none] (St a b Mt) = .ok (.fr (d.map .int)) (St a' b' Mt) := by
    refine el_start ?_
    unfold DrE
    repeat' (first | (wtm_at "mpA") | (wtm_at "mp0"))
    refine (congrArg (fun z => el z _ _) (e : compL _ _ _ _ _ _ _ _ _ = _)).trans ?_
    try rfl
  unfold F_law_drawn
  refine e_fn rfl ?_
  unfold T_law_drawn
  refine e_seq (e_ret (e_args (l_cons (e_is e0 (s_f (l_nil ?_))))))
  repeat' (first | (wtm_at "mpA") | (with_reducible apply e_call tup_lst) | (wtm_at "mp1"))
  exact r_dT

/-! all rows between two rows -/
def rgI (lo hi : Int) : List Int := (List.range (hi + 1 - lo).toNat).map fun k : Nat => lo + (k : Int)
theorem rg_mem {lo hi x : Int} (h : x ∈ rgI lo hi) : lo ≤ x ∧ x ≤ hi := by
  unfold rgI at h
  obtain ⟨k, hk, rfl⟩ := List.mem_map.mp h
  rw [List.mem_range] at hk
  omega
def exT (v w : List Int) (n : Nat) (r : List Int) : List (List Int) := (rgI (v.getD n 0) (w.getD n 0)).map fun x => r ++ [x]
def betN (v w : List Int) : Nat → List (List Int)
  | 0 => [[]]
  | n + 1 => (betN v w n).flatMap (exT v w n)
def wdN (v w : List Int) (k : Nat) : Nat := (w.getD k 0 + 1 - v.getD k 0).toNat
def prN (v w : List Int) : Nat → Nat
  | 0 => 1
  | n + 1 => prN v w n * wdN v w n
theorem exT_len (v w : List Int) (n : Nat) (r : List Int) : (exT v w n r).length = wdN v w n := by
  unfold exT rgI wdN
  rw [List.length_map, List.length_map, List.length_range]
theorem flat_len (v w : List Int) (n : Nat) : ∀ L : List (List Int), (L.flatMap (exT v w n)).length = L.length * wdN v w n
  | [] => by simp
  | r :: L => by rw [List.flatMap_cons, List.length_append, flat_len v w n L, exT_len, List.length_cons, Nat.succ_mul]; omega
theorem bet_len (v w : List Int) : ∀ n, (betN v w n).length = prN v w n
  | 0 => rfl
  | n + 1 => by
    show ((betN v w n).flatMap (exT v w n)).length = prN v w n * wdN v w n
    rw [flat_len, bet_len v w n]
theorem bet_row (v w : List Int) : ∀ n, ∀ r ∈ betN v w n, r.length = n ∧ ∀ k, k < n → v.getD k 0 ≤ r.getD k 0 ∧ r.getD k 0 ≤ w.getD k 0
  | 0, r, h => by
    rw [List.mem_singleton.mp h]
    exact ⟨rfl, fun k hk => absurd hk (Nat.not_lt_zero _)⟩
  | n + 1, r, h => by
    obtain ⟨s, hs, h⟩ := List.mem_flatMap.mp h
    obtain ⟨x, hx, rfl⟩ := List.mem_map.mp h
    obtain ⟨h1, h2⟩ := bet_row v w n s hs
    refine ⟨by rw [List.length_append, h1]; rfl, fun k hk => ?_⟩
    by_cases e : k < n
    · have := h2 k e
      rw [List.getD_eq_getElem?_getD (l := s ++ [x]), List.getElem?_append_left (by omega), ← List.getD_eq_getElem?_getD]
      exact this
    · have e2 : k = n := by omega
      subst e2
      rw [List.getD_eq_getElem?_getD (l := s ++ [x]), List.getElem?_append_right (by omega), h1, Nat.sub_self]
      exact rg_mem hx
theorem pr_step {v w : List Int} {n : Nat} (h : v.getD n 0 ≤ w.getD n 0) : prN v w n ≤ prN v w (n + 1) := by
  show prN v w n ≤ prN v w n * wdN v w n
  have : 1 ≤ wdN v w n := by unfold wdN; omega
  exact Nat.le_mul_of_pos_right _ this
theorem pr_le {v w : List Int} {n m : Nat} (h : ∀ k, k < m → v.getD k 0 ≤ w.getD k 0) (hn : n ≤ m) : prN v w n ≤ prN v w m := by
  induction m with
  | zero => rw [Nat.le_zero.mp hn]; exact Nat.le_refl _
  | succ m ih =>
    rcases Nat.lt_or_ge n (m + 1) with h1 | h1
    · exact Nat.le_trans (ih (fun k hk => h k (by omega)) (by omega)) (pr_step (h m (by omega)))
    · rw [show n = m + 1 by omega]; exact Nat.le_refl _
def BwC : SE := (sComp (sRng (sCons (sIdx (sVar 0) (sVar 3)) (sCons (sBin .Add (sIdx (sVar 1) (sVar 3)) (sCon (.int 1))) sNil))) (.name 6) sYes (sBin .Add (sVar 5) (sTup (sCons (sVar 6) sNil))) (([("x", 6)] : List (Str × Nat)).map (·.2)))
def BwI : SS := (sSeq2 (sAsg 4 false (sBin .Add (sVar 4) BwC)) sSkip)
abbrev bwE (v w : List Int) (o2 o3 o4 o5 : Option AV) : Env := [some (.d (ti v)), some (.d (ti w)), o2, o3, o4, o5, none]
section
variable {v w : List Int} {M : Mem}
theorem add_ll {xs ys : List D} (h : xs.length + ys.length ≤ 1000000) : binop .Add (opnd M (.d (.lst xs))) (opnd M (.fr ys)) M = .ok (.fr (xs ++ ys)) M := add_lf h
theorem bwc_ok {n : Nat} {r : List Int} (h1 : n < v.length) (h2 : n < w.length) (hr : r.length ≤ 1000) (hb : -100000 ≤ v.getD n 0 ∧ v.getD n 0 ≤ 100000 ∧ -100000 ≤ w.getD n 0 ∧ w.getD n 0 ≤ 100000) {o2 o4 : Option AV} :
    BwC (bwE v w o2 (some (.d (.int (n : Nat)))) o4 (some (.d (ti r)))) M = .ok (.fr ((exT v w n r).map ti)) M := by
  have i1 : ∀ M, idx (.d (ti v)) (.d (.int (n : Nat))) M = .ok (.d (.int (v.getD n 0))) M := fun M => (row_t v).1 n M h1
  have i2 : ∀ M, idx (.d (ti w)) (.d (.int (n : Nat))) M = .ok (.d (.int (w.getD n 0))) M := fun M => (row_t w).1 n M h2
  refine el_start ?_
  unfold BwC
  repeat' (first | (wtm_at "mpA") | (with_reducible apply p_idx (i1 _)) | (with_reducible apply p_idx (i2 _)) | (wtm_at "mp0"))
  refine e_compA (φ := fun k : Nat => D.int (v.getD n 0 + (k : Nat))) (List.range (w.getD n 0 + 1 - v.getD n 0).toNat) (fun k => ti (r ++ [v.getD n 0 + (k : Int)])) (fun k hk => ?_) (by rw [List.length_range]; omega) ?_
  · refine ⟨_, rfl, .d (ti (r ++ [v.getD n 0 + (k : Int)])), el_start ?_, rfl⟩
    have hra : (r.map D.int).length + [D.int (v.getD n 0 + (k : Int))].length ≤ 1000000 := by rw [List.length_map]; show r.length + 1 ≤ _; omega
    repeat' (first | (wtm_at "mpA") | (with_reducible apply p_addT hra) | (wtm_at "mp1"))
    show Out.ok (AV.d (.tup (r.map D.int ++ [D.int (v.getD n 0 + (k : Int))]))) M = Out.ok (AV.d (.tup ((r ++ [v.getD n 0 + (k : Int)]).map D.int))) M
    rw [List.map_append]
    rfl
  · show Out.ok (AV.fr _) M = Out.ok (AV.fr _) M
    unfold exT rgI
    rw [List.map_map, List.map_map]
    rfl
theorem bwi_ok {n : Nat} (h1 : n < v.length) (h2 : n < w.length) (hb : -100000 ≤ v.getD n 0 ∧ v.getD n 0 ≤ 100000 ∧ -100000 ≤ w.getD n 0 ∧ w.getD n 0 ≤ 100000) {L : List (List Int)} (hL : ∀ r ∈ L, r.length ≤ 1000) (hz : L.length * wdN v w n ≤ 1000000) {o5 : Option AV} :
    ∃ p5, forL BwI (.name 5) [] (L.map ti) (bwE v w (some (.d (.lst (L.map ti)))) (some (.d (.int (n : Nat)))) (some (.d (.lst []))) o5) M = .ok (.next (bwE v w (some (.d (.lst (L.map ti)))) (some (.d (.int (n : Nat)))) (some (.d (.lst ((L.flatMap (exT v w n)).map ti)))) p5)) M := by
  obtain ⟨env', M', e, p5, rfl, rfl⟩ := for_pre (φ := ti) (body := BwI) (tg := .name 5)
    (I := fun d env M' => ∃ p5, env = bwE v w (some (.d (.lst (L.map ti)))) (some (.d (.int (n : Nat)))) (some (.d (.lst ((d.flatMap (exT v w n)).map ti)))) p5 ∧ M' = M) L [] (fun d r q ed env M' h => by
      obtain ⟨p5, rfl, rfl⟩ := h
      have hr : r ∈ L := by
        have ed2 : L = d ++ r :: q := by rw [← ed]; rfl
        rw [ed2]
        exact List.mem_append.mpr (.inr List.mem_cons_self)
      have hlen : L.length = d.length + 1 + q.length := by
        have ed2 : L = d ++ r :: q := by rw [← ed]; rfl
        rw [ed2, List.length_append, List.length_cons]
        omega
      have hs : (d.flatMap (exT v w n)).length + (exT v w n r).length ≤ 1000000 := by
        rw [flat_len, exT_len, ← Nat.succ_mul]
        exact Nat.le_trans (Nat.mul_le_mul_right _ (by omega)) hz
      have hc := bwc_ok (M := M') h1 h2 (hL r hr) hb (o2 := some (.d (.lst (L.map ti)))) (o4 := some (.d (.lst ((d.flatMap (exT v w n)).map ti))))
      refine ⟨_, bwE v w (some (.d (.lst (L.map ti)))) (some (.d (.int (n : Nat)))) (some (.d (.lst (((d ++ [r]).flatMap (exT v w n)).map ti)))) (some (.d (ti r))), M', rfl, el_start ?_, some (.d (ti r)), rfl, rfl⟩
      have ha : binop .Add (opnd M' (.d (.lst ((d.flatMap (exT v w n)).map ti)))) (opnd M' (.fr ((exT v w n r).map ti))) M' = .ok (.fr (((d ++ [r]).flatMap (exT v w n)).map ti)) M' := by
        rw [add_ll (by rw [List.length_map, List.length_map]; exact hs), List.flatMap_append, List.map_append]
        simp
      unfold BwI
      refine e_seq (e_asg (e_bin (e_var rfl (e_is hc ?_))))
      repeat' (first | (wtm_at "mpA") | (with_reducible apply p_bin ha) | (wtm_at "mp1"))
      rfl) (bwE v w (some (.d (.lst (L.map ti)))) (some (.d (.int (n : Nat)))) (some (.d (.lst []))) o5) M ⟨o5, rfl, rfl⟩
  exact ⟨p5, e⟩
theorem between_ok (hl : w.length = v.length) (h12 : v.length ≤ 1000) (hb : ∀ k, k < v.length → -100000 ≤ v.getD k 0 ∧ v.getD k 0 ≤ 100000 ∧ -100000 ≤ w.getD k 0 ∧ w.getD k 0 ≤ 100000) (hle : ∀ k, k < v.length → v.getD k 0 ≤ w.getD k 0) (hz : prN v w v.length ≤ 1000000) (M : Mem) :
    F_law_between [.d (ti v), .d (ti w)] M = .ok (.d (.lst ((betN v w v.length).map ti))) M := by
  have hln : (v.map D.int).length ≤ 1000000 := by rw [List.length_map]; omega
  unfold F_law_between
  refine e_fn rfl ?_
  unfold T_law_between
  repeat' (first | (wtm_at "mpA") | (wtm_at "mp0"))
  rw [List.length_map, rng0]
  obtain ⟨env', M', e, o3, o4, o5, rfl, rfl⟩ := for_pre (φ := fun k : Nat => D.int (k : Int)) (body := (sSeq2 (sAsg 4 false (sLst sNil)) (sSeq2 (sFor (sSeq (sVar 2)) (.name 5) BwI) (sSeq2 (sAsg 2 false (sArgs listOp (sCons (sVar 4) sNil))) sSkip)))) (tg := .name 3)
    (I := fun d env M' => ∃ o3 o4 o5, env = bwE v w (some (.d (.lst ((betN v w d.length).map ti)))) o3 o4 o5 ∧ M' = M) (List.range v.length) [] (fun d n q ed env M' h => by
      obtain ⟨o3, o4, o5, rfl, rfl⟩ := h
      obtain ⟨rfl, hn⟩ := rng_at (n := v.length) (d := d) (r := q) (by rw [← ed]; rfl)
      have hn1 : prN v w d.length * wdN v w d.length ≤ 1000000 := Nat.le_trans (pr_le (n := d.length + 1) hle (by omega)) hz
      obtain ⟨p5, e⟩ := bwi_ok (M := M') (n := d.length) (o5 := o5) hn (by omega) (hb _ hn) (L := betN v w d.length) (fun r hr => by rw [(bet_row v w _ r hr).1]; omega) (by rw [bet_len]; exact hn1)
      rw [List.length_append, List.length_singleton]
      refine ⟨_, bwE v w (some (.d (.lst ((betN v w (d.length + 1)).map ti)))) (some (.d (.int (d.length : Nat)))) (some (.d (.lst ((betN v w (d.length + 1)).map ti)))) p5, M', rfl, el_start ?_, _, _, _, rfl, rfl⟩
      refine e_seq (e_asg (e_lst (l_nil ?_)))
      repeat' (first | (wtm_at "mpA") | (wtm_at "mp0"))
      refine (congrArg (fun z => el z _ _) (e : forL _ _ _ _ _ _ = _)).trans ?_
      repeat' (first | (wtm_at "mpA") | (with_reducible apply e_call lst_l) | (wtm_at "mp1"))
      rfl) (bwE v w (some (.d (.lst ((betN v w 0).map ti)))) none none none) M ⟨none, none, none, rfl, rfl⟩
  refine (congrArg (fun z => el z _ _) (e : forL _ _ _ _ _ _ = _)).trans ?_
  rw [List.nil_append, List.length_range]
  repeat' (first | (wtm_at "mpA") | (wtm_at "mp1"))
  try exact r_d
end

/-! _law_holds -/
def H1 : SS :=
 (sAsg 3 false (sArgs F_law_done (sCons (sVar 0) (sCons (sVar 1) (sCons (sVar 2) sNil)))))
def H2 : SS :=
 (sIfS (sOrB (sB (sCmp .NotEq (sVar 3) (sArgs F_law_done (sCons (sVar 0) (sCons (sVar 1) (sCons (sVar 2) sNil)))))) (sOrB (sNotB (sB (sArgs F_law_fits (sCons (sVar 1) (sCons (sVar 3) sNil))))) (sOrB (sNotB (sB (sArgs F_law_tells (sCons (sCon (.fn "unloaded")) (sCons (sTup (sCons (sVar 1) (sCons (sVar 2) sNil))) (sCons (sVar 3) sNil)))))) (sNotB (sB (sArgs F_law_tells (sCons (sCon (.fn "unloaded")) (sCons (sTup (sCons (sVar 1) (sCons (sVar 3) sNil))) (sCons (sVar 3) sNil)))))))))
 (sSeq2 (sRet (sCon (.bl false)))
 sSkip)
 sSkip)
def H3 : SS :=
 (sAsg 4 false (sCon (.int 1)))
def H4b : SS :=
 (sSeq2 (sAsg 4 false (sBin .Mult (sVar 4) (sBin .Add (sBin .Sub (sIdx (sVar 3) (sVar 5)) (sIdx (sVar 2) (sVar 5))) (sCon (.int 1)))))
 sSkip)
def H4 : SS := sFor (sRng (sCons (sArgs lenOp (sCons (sVar 2) sNil)) sNil)) (.name 5) H4b
def H5 : SS :=
 (sIfS (sB (sCmp .Lt (sVar 4) (sCon (.int 400))))
 (sSeq2 (sFor (sSeq (sArgs F_law_between (sCons (sVar 2) (sCons (sVar 3) sNil)))) (.name 6)
 (sSeq2 (sIfS (sB (sCmp .NotEq (sArgs F_law_fits (sCons (sVar 1) (sCons (sVar 6) sNil))) (sCmp .Eq (sVar 6) (sVar 3))))
 (sSeq2 (sRet (sCon (.bl false)))
 sSkip)
 sSkip)
 sSkip))
 sSkip)
 sSkip)
def H6 : SS :=
 (sIfS (sB (sCmp .Lt (sArgs minOp2 (sCons (sVar 2) sNil)) (sCon (.int 0))))
 (sSeq2 (sRet (sArgs F_law_raises (sCons (sCon (.fn "ideal_codimension")) (sCons (sTup (sCons (sVar 1) (sCons (sVar 2) sNil))) (sCons (sCon (.str "malformed")) sNil)))))
 sSkip)
 sSkip)
def H7 : SS :=
 (sRet (sAnd (sArgs F_law_tells (sCons (sCon (.fn "ideal_codimension")) (sCons (sTup (sCons (sVar 1) (sCons (sVar 2) sNil))) (sCons (sArgs F_law_number (sCons (sVar 1) (sCons (sVar 3) sNil))) sNil)))) (sArgs F_law_tells (sCons (sCon (.fn "ideal_codimension")) (sCons (sTup (sCons (sVar 1) (sCons (sVar 3) sNil))) (sCons (sArgs F_law_number (sCons (sVar 1) (sCons (sVar 3) sNil))) sNil))))))
theorem T_law_holds_eq : T_law_holds = (sSeq2 H1 (sSeq2 H2 (sSeq2 H3 (sSeq2 H4 (sSeq2 H5 (sSeq2 H6 (sSeq2 H7 sSkip))))))) := rfl

abbrev hE (P : List (List Int)) (v : List Int) (o3 o4 o5 o6 : Option AV) : Env := [some (.cell 0), some (.d (tis P)), some (.d (ti v)), o3, o4, o5, o6]
theorem ne_bb {b : Bool} {M : Mem} : cmpop .NotEq (.d (.bl b)) (.d (.bl b)) M = .ok (.d (.bl false)) M := by cases b <;> rfl
theorem eq_ti (c d : List Int) (M : Mem) : cmpop .Eq (.d (ti c)) (.d (ti d)) M = .ok (.d (.bl (decide (c = d)))) M := by
  have h := p_eq (k := fun x M => .ok x M) (kx := fun e M => .exc e M) (M := M) (a := ti c) (b := ti d) (ok_ti c) (ok_ti d) rfl
  rw [el_id, eqv_ti] at h
  exact h
section
variable {P : List (List Int)} {v w : List Int} {M : Mem} {a b : Int} {Mt : Mem} {o4 o5 o6 : Option AV}
theorem steps_self (h : PA3 P) (hw : Cons P w) : ∀ M, ∃ st, Fsteps_from [.d (tis P), .d (ti w)] M = .ok (.d (.tup [.lst st, .lst (w.map .int)])) M := fun M => ⟨[], steps_ok h.pd.vp hw.len (by have := h.le; omega) h.pd.own hw.ex⟩
theorem steps_least (h : PA3 P) (r : RB P v) (hw : Least P v w) : ∀ M, ∃ st, Fsteps_from [.d (tis P), .d (ti v)] M = .ok (.d (.tup [.lst st, .lst (w.map .int)])) M := fun M => by
  obtain ⟨w2, hw2, e⟩ := steps_gen h.pb r.len (by have := h.le; omega) h.pd.own (K := 20) (by decide) r.le20 (far20 h r)
  rw [least_uniq hw hw2]
  exact e M
theorem h2_ok (h : PA3 P) (r : RB P v) (hw : Least P v w) : ∃ a' b', H2 (hE P v (some (.d (ti w))) o4 o5 o6) (St a b Mt) = .ok (.next (hE P v (some (.d (ti w))) o4 o5 o6)) (St a' b' Mt) := by
  obtain ⟨w2, a2, b2, e1, hw2⟩ := done_ok h.pd h.pb r.len (K := 20) (by decide) r.le20 (far20 h r) (a := a) (b := b) (Mt := Mt)
  rw [← least_uniq hw hw2] at e1
  have n0 : ∀ M, cmpop .NotEq (.d (ti w)) (.d (ti w)) M = .ok (.d (.bl false)) M := fun M => by
    have := ne_ti w w M
    rw [decide_eq_true rfl] at this
    exact this
  have hf : ∀ M, F_law_fits [.d (tis P), .d (ti w)] M = .ok (.d (.bl true)) M := fun M => by
    rw [fits_ok h.pd hw.btw.len, (fits_iff hw.btw.len h.pd.pos).mpr hw.cons]
  have hl9 : w.length ≤ 90000 := by rw [hw.btw.len]; have := h.le; omega
  have t1 := tellU h.pd (r.gw h) hl9 (steps_least h r hw)
  have t2 := tellU h.pd (least_gw h r hw) hl9 (steps_self h hw.cons)
  refine ⟨a2, b2, el_start ?_⟩
  unfold H2
  repeat' (first | (wtm_at "mpA") | (with_reducible apply e_call e1) | (with_reducible apply p_cmpE (n0 _)) | (with_reducible apply e_call (hf _)) | (with_reducible apply e_call (t1 _)) | (with_reducible apply e_call (t2 _)) | (wtm_at "mp1"))
  try rfl
theorem h4_ok (h : PA3 P) (r : RB P v) (hw : Least P v w) : ∃ p5, H4 (hE P v (some (.d (ti w))) (some (.d (.int 1))) o5 o6) M = .ok (.next (hE P v (some (.d (ti w))) (some (.d (.int (prN v w P.length : Nat)))) p5 o6)) M := by
  have hln : (v.map D.int).length ≤ 1000000 := by rw [List.length_map, r.len]; have := h.le; omega
  obtain ⟨env', M', e, p5, rfl, rfl⟩ := for_pre (φ := fun k : Nat => D.int (k : Int)) (body := H4b) (tg := .name 5)
      (I := fun d env M' => ∃ p5, env = hE P v (some (.d (ti w))) (some (.d (.int (prN v w d.length : Nat)))) p5 o6 ∧ M' = M) (List.range P.length) [] (fun d n q ed env M' hI => by
        obtain ⟨p5, rfl, rfl⟩ := hI
        obtain ⟨rfl, hn⟩ := rng_at (n := P.length) (d := d) (r := q) (by rw [← ed]; rfl)
        have hl := r.len
        have hl2 := hw.btw.len
        have i1 : ∀ M, idx (.d (ti v)) (.d (.int (d.length : Nat))) M = .ok (.d (.int (v.getD d.length 0))) M := fun M => (row_t v).1 _ M (by omega)
        have i2 : ∀ M, idx (.d (ti w)) (.d (.int (d.length : Nat))) M = .ok (.d (.int (w.getD d.length 0))) M := fun M => (row_t w).1 _ M (by omega)
        have b1 := r.bd _ hn
        have b2 := least_bd h r hw hn
        have b3 := hw.btw.ge _ hn
        have mo : mulOk (prN v w d.length : Nat) (w.getD d.length 0 - v.getD d.length 0 + 1) = true := mul_r (by omega) (by omega)
        rw [List.length_append, List.length_singleton]
        have e0 : ((prN v w (d.length + 1) : Nat) : Int) = (prN v w d.length : Nat) * (w.getD d.length 0 - v.getD d.length 0 + 1) := by
          show ((prN v w d.length * wdN v w d.length : Nat) : Int) = _
          rw [Int.natCast_mul]
          unfold wdN
          rw [Int.toNat_of_nonneg (by omega)]
          congr 1
          omega
        rw [e0]
        refine ⟨_, hE P v (some (.d (ti w))) (some (.d (.int ((prN v w d.length : Nat) * (w.getD d.length 0 - v.getD d.length 0 + 1))))) (some (.d (.int (d.length : Nat)))) o6, M', rfl, el_start ?_, _, rfl, rfl⟩
        unfold H4b
        repeat' (first | (wtm_at "mpA") | (with_reducible apply p_idx (i1 _)) | (with_reducible apply p_idx (i2 _)) | (with_reducible apply p_mul mo) | (wtm_at "mp1"))
        rfl) (hE P v (some (.d (ti w))) (some (.d (.int 1))) o5 o6) M ⟨o5, rfl, rfl⟩
  refine ⟨p5, el_start ?_⟩
  unfold H4
  repeat' (first | (wtm_at "mpA") | (wtm_at "mp0"))
  rw [List.length_map, r.len, rng0]
  refine (congrArg (fun z => el z _ _) (e : forL _ _ _ _ _ _ = _)).trans ?_
  rw [List.nil_append, List.length_range]
  rfl
theorem h5_ok (h : PA3 P) (r : RB P v) (hw : Least P v w) : ∃ p6, H5 (hE P v (some (.d (ti w))) (some (.d (.int (prN v w P.length : Nat)))) o5 o6) M = .ok (.next (hE P v (some (.d (ti w))) (some (.d (.int (prN v w P.length : Nat)))) o5 p6)) M := by
  have hl := r.len
  have hl2 := hw.btw.len
  have h12 := h.le
  by_cases hz : ((prN v w P.length : Nat) : Int) < 400
  · have hb := between_ok (v := v) (w := w) (by omega) (by omega) (fun k hk => by
      have := r.bd k (by omega)
      have := least_bd h r hw (k := k) (by omega)
      omega) (fun k hk => hw.btw.ge k (by omega)) (by rw [hl]; omega)
    obtain ⟨env', M', e, p6, rfl, rfl⟩ := for_pre (φ := ti) (body := (sSeq2 (sIfS (sB (sCmp .NotEq (sArgs F_law_fits (sCons (sVar 1) (sCons (sVar 6) sNil))) (sCmp .Eq (sVar 6) (sVar 3)))) (sSeq2 (sRet (sCon (.bl false))) sSkip) sSkip) sSkip)) (tg := .name 6)
      (I := fun d env M' => ∃ p6, env = hE P v (some (.d (ti w))) (some (.d (.int (prN v w P.length : Nat)))) o5 p6 ∧ M' = M) (betN v w v.length) [] (fun d x q ed env M' hI => by
        obtain ⟨p6, rfl, rfl⟩ := hI
        have hx : x ∈ betN v w v.length := by
          have ed2 : betN v w v.length = d ++ x :: q := by rw [← ed]; rfl
          rw [ed2]
          exact List.mem_append.mpr (.inr List.mem_cons_self)
        obtain ⟨x1, x2⟩ := bet_row v w _ x hx
        have hf : ∀ M, F_law_fits [.d (tis P), .d (ti x)] M = .ok (.d (.bl (decide (x = w)))) M := fun M => by
          rw [fits_ok h.pd (by omega)]
          congr 3
          rw [Bool.eq_iff_iff, fits_iff (by omega) h.pd.pos, decide_eq_true_eq]
          constructor
          · intro hc
            exact least_only hw hc (fun k hk => (x2 k (by omega)).1) (fun k hk => (x2 k (by omega)).2)
          · intro hc
            rw [hc]
            exact hw.cons
        have e1 : ∀ M, cmpop .Eq (.d (ti x)) (.d (ti w)) M = _ := fun M => eq_ti x w M
        refine ⟨_, hE P v (some (.d (ti w))) (some (.d (.int (prN v w P.length : Nat)))) o5 (some (.d (ti x))), M', rfl, el_start ?_, _, rfl, rfl⟩
        repeat' (first | (wtm_at "mpA") | (with_reducible apply e_call (hf _)) | (with_reducible apply p_cmpE (e1 _)) | (with_reducible apply p_cmpE ne_bb) | (wtm_at "mp1"))
        try rfl) (hE P v (some (.d (ti w))) (some (.d (.int (prN v w P.length : Nat)))) o5 o6) M ⟨o6, rfl, rfl⟩
    refine ⟨p6, el_start ?_⟩
    unfold H5
    repeat' (first | (wtm_at "mpA") | (with_reducible apply e_call (hb _)) | (wtm_at "mp0"))
    refine (congrArg (fun z => el z _ _) (e : forL _ _ _ _ _ _ = _)).trans ?_
    rfl
  · refine ⟨o6, el_start ?_⟩
    unfold H5
    repeat' (first | (wtm_at "mpA") | (wtm_at "mp0"))
    rfl
theorem holds_ok (h : PA3 P) (r : RB P v) : ∃ a' b', F_law_holds [.cell 0, .d (tis P), .d (ti v)] (St a b Mt) = .ok (.d (.bl true)) (St a' b' Mt) := by
  obtain ⟨w, a1, b1, e1, hw⟩ := done_ok h.pd h.pb r.len (K := 20) (by decide) r.le20 (far20 h r) (a := a) (b := b) (Mt := Mt)
  obtain ⟨a2, b2, e2⟩ := h2_ok h r hw (a := a1) (b := b1) (Mt := Mt) (o4 := none) (o5 := none) (o6 := none)
  obtain ⟨p5, e4⟩ := h4_ok h r hw (M := St a2 b2 Mt) (o5 := none) (o6 := none)
  obtain ⟨p6, e5⟩ := h5_ok h r hw (M := St a2 b2 Mt) (o5 := p5) (o6 := none)
  have hp := h.pd.pos
  have m1 : ∀ M, minOp2 [.d (ti v)] M = _ := fun M => min_ti (by rw [r.len]; exact hp) (M := M)
  refine ⟨a2, b2, ?_⟩
  unfold F_law_holds
  refine e_fn rfl ?_
  rw [T_law_holds_eq]
  have e1' : H1 (initEnv 7 [.cell 0, .d (tis P), .d (ti v)]) (St a b Mt) = .ok (.next (hE P v (some (.d (ti w))) none none none)) (St a1 b1 Mt) := by
    refine el_start ?_
    unfold H1
    repeat' (first | (wtm_at "mpA") | (with_reducible apply e_call e1) | (wtm_at "mp1"))
    rfl
  refine e_stmt e1' ?_
  refine e_stmt e2 ?_
  refine e_stmt (env' := hE P v (some (.d (ti w))) (some (.d (.int 1))) none none) (M' := St a2 b2 Mt) rfl ?_
  refine e_stmt e4 ?_
  refine e_stmt e5 ?_
  by_cases hn : minI v < 0
  · have hx : ∃ x ∈ v, x < 0 := by
      refine Classical.byContradiction fun hc => ?_
      have := minI_nn (c := v) fun x hx => by
        rcases Int.lt_or_le x 0 with h1 | h1
        · exact absurd ⟨x, hx, h1⟩ hc
        · exact h1
      omega
    have t1 := raisesM (fun M => toldCM (a := tis P) (b := ti v) fun M => ic_neg h.pd r.len r.wb hx (M := M))
    unfold H6
    repeat' (first | (wtm_at "mpA") | (with_reducible apply e_call (m1 _)) | (with_reducible apply e_call (t1 _)) | (wtm_at "mp1"))
    try exact r_dT
  · have vd : VD P v := ⟨r.len, r.wb, fun x hx => by have := minI_le hx; omega⟩
    have wd : VD P w := ⟨hw.btw.len, least_wb h r hw, all_getD (p := fun x => 0 ≤ x) fun k hk => by
      have hl := hw.btw.len
      have h1 := hw.btw.ge k (by omega)
      have h2 := getD_all (p := fun x => 0 ≤ x) vd.nn (k := k) (by rw [r.len]; omega)
      omega⟩
    have mb := mul_bd h r hw
    have n1 : ∀ M, F_law_number [.d (tis P), .d (ti w)] M = _ := fun M => lnum_ok h.pd hw.btw.len mb (M := M)
    have t1 := tells_ok (fun M => toldC (a := tis P) (b := ti v) (x := .int (numI (mulL P w))) (fun M => ic_gen h.pd vd hw.btw.len (steps_least h r hw) mb M) (M := M)) (fun M => sameI)
    have t2 := tells_ok (fun M => toldC (a := tis P) (b := ti w) (x := .int (numI (mulL P w))) (fun M => ic_gen h.pd wd hw.btw.len (steps_self h hw.cons) mb M) (M := M)) (fun M => sameI)
    unfold H6
    repeat' (first | (wtm_at "mpA") | (with_reducible apply e_call (m1 _)) | (wtm_at "mp1"))
    unfold H7
    repeat' (first | (wtm_at "mpA") | (with_reducible apply e_call (n1 _)) | (with_reducible apply e_call (t1 _)) | (with_reducible apply e_call (t2 _)) | (wtm_at "mp1"))
    try exact r_dT
end

/-! the values that are no points, no rows -/
def ML1 : SE := (sLst (sCons (sCon .non) (sCons (sCon (.int 0)) (sCons (sTup sNil) (sCons (sLst (sCons (sTup sNil) sNil)) (sCons (sTup (sCons (sTup (sCons (sCon (.int 0)) sNil)) sNil)) (sCons (sTup (sCons (sTup sNil) (sCons (sTup (sCons (sCon (.int 1)) sNil)) sNil))) (sCons (sTup (sCons (sTup sNil) (sCons (sTup (sCons (sCon (.int 0)) (sCons (sCon (.int 0)) sNil))) sNil))) (sCons (sTup (sCons (sTup sNil) (sCons (sLst (sCons (sCon (.int 0)) sNil)) sNil))) (sCons (sTup (sCons (sTup sNil) (sCons (sTup (sCons (sCon (.int 0)) sNil)) (sCons (sTup (sCons (sCon (.int 0)) (sCons (sCon (.int 1)) sNil))) sNil)))) (sCons (sTup (sCons (sTup sNil) (sCons (sTup (sCons (sCon (.int 0)) sNil)) (sCons (sTup (sCons (sCon (.int 1)) (sCons (sCon (.int 0)) sNil))) (sCons (sTup (sCons (sCon (.int 1)) (sCons (sCon (.int 0)) sNil))) sNil))))) (sCons (sTup (sCons (sTup sNil) (sCons (sTup (sCons (sCon (.bl true)) sNil)) sNil))) (sCons (sBin .Mult (sTup (sCons (sTup sNil) sNil)) (sCon (.int 2))) sNil)))))))))))))
def MB1 : SS := (sSeq2 (sIfS (sOrB (sNotB (sB (sArgs F_law_raises (sCons (sCon (.fn "unloaded")) (sCons (sTup (sCons (sVar 4) (sCons (sVar 3) sNil))) (sCons (sCon (.str "malformed")) sNil)))))) (sNotB (sB (sArgs F_law_raises (sCons (sCon (.fn "ideal_codimension")) (sCons (sTup (sCons (sVar 4) (sCons (sVar 3) sNil))) (sCons (sCon (.str "malformed")) sNil)))))))
 (sSeq2 (sRet (sCon (.bl false)))
 sSkip)
 sSkip)
 sSkip)
def ML2 : SE := (sLst (sCons (sCon .non) (sCons (sCon (.int 0)) (sCons (sArgs listOp (sCons (sVar 3) sNil)) (sCons (sBin .Add (sVar 3) (sTup (sCons (sCon (.int 0)) sNil))) (sCons (sSlice (sVar 3) (some (sCon (.int 1))) none) (sCons (sBin .Add (sSlice (sVar 3) (some (sCon (.int 1))) none) (sTup (sCons (sCon (.bl true)) sNil))) (sCons (sBin .Add (sSlice (sVar 3) (some (sCon (.int 1))) none) (sTup (sCons (sCon (.str "1")) sNil))) (sCons (sBin .Add (sSlice (sVar 3) (some (sCon (.int 1))) none) (sTup (sCons (sCon .non) sNil))) (sCons (sBin .Add (sSlice (sVar 3) (some (sCon (.int 1))) none) (sTup (sCons (sCon (.int 100001)) sNil))) (sCons (sBin .Add (sSlice (sVar 3) (some (sCon (.int 1))) none) (sTup (sCons (sTup (sCons (sCon (.int 1)) (sCons (sCon (.int 1)) sNil))) sNil))) sNil)))))))))))
def MB2 : SS := (sSeq2 (sIfS (sOrB (sNotB (sB (sArgs F_law_raises (sCons (sCon (.fn "unloaded")) (sCons (sTup (sCons (sVar 1) (sCons (sVar 4) sNil))) (sCons (sCon (.str "malformed")) sNil)))))) (sNotB (sB (sArgs F_law_raises (sCons (sCon (.fn "ideal_codimension")) (sCons (sTup (sCons (sVar 1) (sCons (sVar 4) sNil))) (sCons (sCon (.str "malformed")) sNil)))))))
 (sSeq2 (sRet (sCon (.bl false)))
 sSkip)
 sSkip)
 sSkip)
def MR3 : SS := (sRet (sAnd (sArgs F_law_raises (sCons (sCon (.fn "unloaded")) (sCons (sTup (sCons (sVar 1) (sCons (sBin .Add (sSlice (sVar 3) (some (sCon (.int 1))) none) (sTup (sCons (sNeg (sCon (.int 100001))) sNil))) sNil))) (sCons (sCon (.str "malformed")) sNil)))) (sArgs F_law_raises (sCons (sCon (.fn "ideal_codimension")) (sCons (sTup (sCons (sVar 1) (sCons (sBin .Add (sSlice (sVar 3) (some (sCon (.int 1))) none) (sTup (sCons (sNeg (sCon (.int 1))) sNil))) sNil))) (sCons (sCon (.str "malformed")) sNil))))))
theorem TM_eq : T_law_malformed_holds = (sSeq2 (sAsg 2 false (sArgs lenOp (sCons (sVar 1) sNil))) (sSeq2 (sAsg 3 false (sArgs F_law_drawn (sCons (sVar 0) (sCons (sVar 2) (sCons (sCon (.int 0)) (sCons (sCon (.int 5)) sNil)))))) (sSeq2 (sFor (sSeq ML1) (.name 4) MB1) (sSeq2 (sFor (sSeq ML2) (.name 4) MB2) (sSeq2 MR3 sSkip))))) := rfl
def badP : List D := [.non, .int 0, .tup [], .lst [.tup []], .tup [.tup [.int 0]], .tup [.tup [], .tup [.int 1]], .tup [.tup [], .tup [.int 0, .int 0]], .tup [.tup [], .lst [.int 0]], .tup [.tup [], .tup [.int 0], .tup [.int 0, .int 1]], .tup [.tup [], .tup [.int 0], .tup [.int 1, .int 0], .tup [.int 1, .int 0]], .tup [.tup [], .tup [.bl true]], .tup [.tup [], .tup []]]
def NoP (d : D) : Prop := ∀ M, Fis_points [.d d] M = .ok (.d (.bl false)) M
theorem nop_t {r : List D} (hi : ∀ d ∈ r, ItK d) (hl : r.length ≤ 500) (h : ptsB [[]] r = false) : NoP (.tup (ti [] :: r)) := fun M => by
  rw [ispts_ok hi hl, h, Bool.and_false]
theorem badP_no : ∀ d ∈ badP, NoP d := by
  have k : ∀ c : List Int, ItK (ti c) := fun c => .inl ⟨c, rfl⟩
  have kl : ∀ xs, ItK (.lst xs) := fun xs => .inr (.inl ⟨xs, rfl⟩)
  intro d hd
  simp only [badP, List.mem_cons, List.not_mem_nil, or_false] at hd
  rcases hd with rfl | rfl | rfl | rfl | rfl | rfl | rfl | rfl | rfl | rfl | rfl | rfl
  · exact fun M => ispts_no (fun x h => by cases h) (fun x h => by cases h)
  · exact fun M => ispts_no (fun x h => by cases h) (fun x h => by cases h)
  · exact fun M => ispts_nil
  · exact fun M => ispts_no (fun x h => by cases h) (fun x h => by cases h)
  · exact fun M => ispts_head (r := []) (.inl ⟨.int 0, [], rfl⟩) (by decide)
  · exact nop_t (r := [ti [1]]) (fun d hd => by rw [List.mem_singleton.mp hd]; exact k _) (by decide) (by decide)
  · exact nop_t (r := [ti [0, 0]]) (fun d hd => by rw [List.mem_singleton.mp hd]; exact k _) (by decide) (by decide)
  · exact nop_t (r := [.lst [.int 0]]) (fun d hd => by rw [List.mem_singleton.mp hd]; exact kl _) (by decide) (by decide)
  · exact nop_t (r := [ti [0], ti [0, 1]]) (fun d hd => by
      simp only [List.mem_cons, List.not_mem_nil, or_false] at hd
      rcases hd with rfl | rfl <;> exact k _) (by decide) (by decide)
  · exact nop_t (r := [ti [0], ti [1, 0], ti [1, 0]]) (fun d hd => by
      simp only [List.mem_cons, List.not_mem_nil, or_false] at hd
      rcases hd with rfl | rfl | rfl <;> exact k _) (by decide) (by decide)
  · exact nop_t (r := [.tup [.bl true]]) (fun d hd => by rw [List.mem_singleton.mp hd]; exact .inr (.inr ⟨.bl true, rfl, rfl, fun x h => by cases h⟩)) (by decide) (by decide)
  · exact nop_t (r := [ti []]) (fun d hd => by rw [List.mem_singleton.mp hd]; exact k _) (by decide) (by decide)
section
variable {P : List (List Int)} {v : List Int} {M : Mem}
theorem un_x {q r : D} (h : ∀ M, Fcheck_weighted [.d q, .d r] M = .exc Mal M) (M : Mem) : Funloaded [.d q, .d r] M = .exc Mal M := by
  unfold Funloaded
  refine e_fn rfl ?_
  unfold Tunloaded
  repeat' (first | (wtm_at "mpA") | (with_reducible apply e_callX (h _)) | (wtm_at "mp1"))
theorem ic_x {q r : D} (h : ∀ M, Fcheck_values [.d q, .d r] M = .exc Mal M) (M : Mem) : Fideal_codimension [.d q, .d r] M = .exc Mal M := by
  unfold Fideal_codimension
  refine e_fn rfl ?_
  unfold Tideal_codimension
  repeat' (first | (wtm_at "mpA") | (with_reducible apply e_callX (h _)) | (wtm_at "mp1"))
theorem mb1_ok {d : D} (hd : NoP d) {o0 o1 o2 : Option AV} : MB1 [o0, o1, o2, some (.d (ti v)), some (.d d)] M = .ok (.next [o0, o1, o2, some (.d (ti v)), some (.d d)]) M := by
  have c0 : ∀ M, Fcheck_weighted [.d d, .d (ti v)] M = .exc Mal M := fun M => chkw_bad hd
  have r1 := raisesM fun M => toldUM (a := d) (b := ti v) (un_x c0) (M := M)
  have r2 := raisesM fun M => toldCM (a := d) (b := ti v) (ic_x fun M => cv_x c0) (M := M)
  refine el_start ?_
  unfold MB1
  repeat' (first | (wtm_at "mpA") | (with_reducible apply e_call (r1 _)) | (with_reducible apply e_call (r2 _)) | (wtm_at "mp1"))
  try rfl
/-- a value that is no row -/
def NoW (P : List (List Int)) (d : D) : Prop := ∀ M, Fcheck_weighted [.d (tis P), .d d] M = .exc Mal M
theorem mb2_ok {d : D} (hd : NoW P d) {o0 o2 o3 : Option AV} : MB2 [o0, some (.d (tis P)), o2, o3, some (.d d)] M = .ok (.next [o0, some (.d (tis P)), o2, o3, some (.d d)]) M := by
  have r1 := raisesM fun M => toldUM (a := tis P) (b := d) (un_x hd) (M := M)
  have r2 := raisesM fun M => toldCM (a := tis P) (b := d) (ic_x fun M => cv_x hd) (M := M)
  refine el_start ?_
  unfold MB2
  repeat' (first | (wtm_at "mpA") | (with_reducible apply e_call (r1 _)) | (with_reducible apply e_call (r2 _)) | (wtm_at "mp1"))
  try rfl
theorem now_no {d : D} (p : PD P) (hf : ∀ x, d ≠ .fn x) (ht : ∀ xs, d ≠ .tup xs) : NoW P d := fun M => chkw_row p.good fun M => wrow_no hf ht
theorem now_t {ds : List D} (p : PD P) (hl : ds.length ≤ 1000) (hf : ∀ d ∈ ds, ∀ x, d ≠ .fn x) (h : (decide (ds.length = P.length) && ds.all wB) = false) : NoW P (.tup ds) := fun M => chkw_row p.good fun M => by
  rw [wrow_ok (by have := p.le; omega) hl hf, h]
def badV (x : Int) (r : List Int) : List D := [.non, .int 0, .lst ((x :: r).map .int), .tup ((x :: r).map .int ++ [.int 0]), .tup (r.map .int), .tup (r.map .int ++ [.bl true]), .tup (r.map .int ++ [.str "1"]), .tup (r.map .int ++ [.non]), .tup (r.map .int ++ [.int 100001]), .tup (r.map .int ++ [.tup [.int 1, .int 1]])]
theorem fi_no (c : List Int) : ∀ d ∈ c.map D.int, ∀ x, d ≠ .fn x := fun d hd x e => by
  obtain ⟨i, _, rfl⟩ := List.mem_map.mp hd
  cases e
theorem fa_no (c : List Int) (y : D) (hy : ∀ x, y ≠ .fn x) : ∀ d ∈ c.map D.int ++ [y], ∀ x, d ≠ .fn x := fun d hd x => by
  rcases List.mem_append.mp hd with h | h
  · exact fi_no c d h x
  · rw [List.mem_singleton.mp h]
    exact hy x
theorem now_a {r : List Int} (p : PD P) (hl : r.length + 1 = P.length) (y : D) (hy : ∀ x, y ≠ .fn x) (hw : wB y = false) : NoW P (.tup (r.map .int ++ [y])) := by
  have h60 := p.le
  refine now_t p (by rw [List.length_append, List.length_map]; show r.length + 1 ≤ 1000; omega) (fa_no _ _ hy) ?_
  rw [List.all_append, List.all_cons, hw]
  simp
theorem badV_no {x : Int} {r : List Int} (p : PD P) (hl : r.length + 1 = P.length) : ∀ d ∈ badV x r, NoW P d := by
  have h60 := p.le
  intro d hd
  simp only [badV, List.mem_cons, List.not_mem_nil, or_false] at hd
  rcases hd with rfl | rfl | rfl | rfl | rfl | rfl | rfl | rfl | rfl | rfl
  · exact now_no p (fun x h => by cases h) (fun x h => by cases h)
  · exact now_no p (fun x h => by cases h) (fun x h => by cases h)
  · exact now_no p (fun x h => by cases h) (fun x h => by cases h)
  · refine now_t p (by rw [List.length_append, List.length_map, List.length_cons]; show r.length + 1 + 1 ≤ 1000; omega) (fa_no _ _ fun x h => by cases h) ?_
    rw [decide_eq_false (by rw [List.length_append, List.length_map, List.length_cons]; show ¬ r.length + 1 + 1 = P.length; omega), Bool.false_and]
  · refine now_t p (by rw [List.length_map]; omega) (fi_no _) ?_
    rw [decide_eq_false (by rw [List.length_map]; omega), Bool.false_and]
  · exact now_a p hl _ (fun x h => by cases h) rfl
  · exact now_a p hl _ (fun x h => by cases h) rfl
  · exact now_a p hl _ (fun x h => by cases h) rfl
  · exact now_a p hl _ (fun x h => by cases h) (by decide)
  · exact now_a p hl _ (fun x h => by cases h) rfl
theorem rep2 : List.replicate (2 : Int).toNat (D.tup []) = [.tup [], .tup []] := rfl
theorem ml1_ok {env : Env} : ML1 env M = .ok (.fr badP) M := by
  have m2 : ∀ M, binop .Mult (opnd M (.d (.tup [.tup []]))) (opnd M (.d (.int 2))) M = .ok (.d (.tup [.tup [], .tup []])) M := fun M => mul_t1 (by decide) (by decide)
  refine el_start ?_
  unfold ML1
  repeat' (first | (wtm_at "mpA") | (with_reducible apply gk_t gkc) | (with_reducible apply p_bin (m2 _)) | (wtm_at "mp1"))
  try rfl
theorem cut_1 {x : Int} {r : List Int} : ∀ M, cutop (.d (ti (x :: r))) (some 1) none M = .ok (.d (.tup (r.map .int))) M := fun M => by
  have e1 : HT.sIx (r.length + 1) 0 (some 1) = 1 := by
    have := HT.sIx_nat (r.length + 1) 0 1
    first | exact this.trans (by omega) | (simp at this; omega)
  have e2 : HT.sIx (r.length + 1) (r.length + 1) none = r.length + 1 := rfl
  have e : cutG ((x :: r).map D.int) (some 1) none = r.map D.int := by
    unfold cutG
    rw [List.length_map, List.length_cons, e1, e2, List.map_cons]
    show List.take (r.length + 1 - 1) (r.map D.int) = _
    rw [Nat.add_sub_cancel, List.take_of_length_le (by rw [List.length_map]; exact Nat.le_refl _)]
  exact congrArg (fun z => Out.ok (AV.d (.tup z)) M) e
theorem ml2_ok {x : Int} {r : List Int} (hl : r.length ≤ 1000) {o0 o1 o2 o4 : Option AV} : ML2 [o0, o1, o2, some (.d (ti (x :: r))), o4] M = .ok (.fr (badV x r)) M := by
  refine el_start ?_
  unfold ML2
  have hx : ((x :: r).map D.int).length + 1 ≤ 1000000 := by rw [List.length_map, List.length_cons]; omega
  have hy : (r.map D.int).length + 1 ≤ 1000000 := by rw [List.length_map]; omega
  have hc := cut_1 (x := x) (r := r)
  have a1 : ∀ M, binop .Add (opnd M (.d (ti (x :: r)))) (opnd M (.d (.tup [.int 0]))) M = .ok (.d (.tup ((x :: r).map .int ++ [.int 0]))) M := fun M => add_tup hx
  have a2 : ∀ (y : D) M, binop .Add (opnd M (.d (.tup (r.map .int)))) (opnd M (.d (.tup [y]))) M = .ok (.d (.tup (r.map .int ++ [y]))) M := fun y M => add_tup hy
  repeat' (first | (wtm_at "mpA") | (with_reducible apply gk_t gkc) | (with_reducible apply e_call lst_tup) | (with_reducible apply p_bin (a1 _)) | (with_reducible apply p_cut (hc _)) | (with_reducible apply p_bin (a2 _ _)) | (wtm_at "mp1"))
  try rfl
theorem mr3_ok {x : Int} {r : List Int} (p : PD P) (hv : VD P (x :: r)) {o0 o2 o4 : Option AV} : MR3 [o0, some (.d (tis P)), o2, some (.d (ti (x :: r))), o4] M = .ok (.ret (.d (.bl true))) M := by
  have hl : r.length + 1 = P.length := hv.len
  have h60 := p.le
  have hy : (r.map D.int).length + 1 ≤ 1000000 := by rw [List.length_map]; omega
  have hc := cut_1 (x := x) (r := r)
  have a2 : ∀ (y : D) M, binop .Add (opnd M (.d (.tup (r.map .int)))) (opnd M (.d (.tup [y]))) M = .ok (.d (.tup (r.map .int ++ [y]))) M := fun y M => add_tup hy
  have n1 : NoW P (.tup (r.map .int ++ [.int (-100001)])) := now_a p hl _ (fun x h => by cases h) (by decide)
  have n2 : ∀ M, Fcheck_values [.d (tis P), .d (.tup (r.map .int ++ [.int (-1)]))] M = .exc Mal M := fun M => by
    have e : r.map D.int ++ [.int (-1)] = (r ++ [-1]).map D.int := by rw [List.map_append]; rfl
    rw [e]
    refine cv_neg p (by rw [List.length_append]; exact hl) (fun m hm => ?_) ⟨-1, List.mem_append.mpr (.inr List.mem_cons_self), by decide⟩
    rcases List.mem_append.mp hm with h | h
    · exact hv.wb m (.tail _ h)
    · rw [List.mem_singleton.mp h]
      exact ⟨by decide, by decide⟩
  have r1 := raisesM fun M => toldUM (a := tis P) (un_x n1) (M := M)
  have r2 := raisesM fun M => toldCM (a := tis P) (ic_x n2) (M := M)
  refine el_start ?_
  unfold MR3
  repeat' (first | (wtm_at "mpA") | (with_reducible apply p_bin (a2 _ _)) | (with_reducible apply p_cut (hc _)) | (with_reducible apply e_call (r1 _)) | (with_reducible apply e_call (r2 _)) | (wtm_at "mp1"))
  try rfl
theorem malf_ok {a b : Int} {Mt : Mem} (h : PA3 P) : ∃ a' b', F_law_malformed_holds [.cell 0, .d (tis P)] (St a b Mt) = .ok (.d (.bl true)) (St a' b' Mt) := by
  have h12 := h.le
  have hpos := h.pd.pos
  obtain ⟨v, a1, b1, e1, hl, hb⟩ := drawn_ok (n := P.length) (lo := 0) (hi := 5) (a := a) (b := b) (Mt := Mt) (by omega) (by decide)
  have vd : VD P v := ⟨hl, fun m hm => by have := hb m hm; omega, fun x hx => (hb x hx).1⟩
  cases v with
  | nil => rw [List.length_nil] at hl; omega
  | cons x r =>
    have hlr : r.length + 1 = P.length := hl
    refine ⟨a1, b1, ?_⟩
    have ll : ∀ M, lenOp [.d (tis P)] M = .ok (.d (.int (P.length : Nat))) M := fun M => by
      show Out.ok (AV.d (.int ((P.map ti).length : Nat))) M = _
      rw [List.length_map]
    obtain ⟨env', M', f1, o4, rfl, rfl⟩ := for_ok (body := MB1) (tg := .name 4) (I := fun env M' => ∃ o4, env = [some (.cell 0), some (.d (tis P)), some (.d (.int (P.length : Nat))), some (.d (ti (x :: r))), o4] ∧ M' = St a1 b1 Mt) badP (fun d hd env M' hI => by
      obtain ⟨o4, rfl, rfl⟩ := hI
      exact ⟨_, _, _, rfl, mb1_ok (badP_no d hd), _, rfl, rfl⟩) [some (.cell 0), some (.d (tis P)), some (.d (.int (P.length : Nat))), some (.d (ti (x :: r))), none] (St a1 b1 Mt) ⟨none, rfl, rfl⟩
    obtain ⟨env', M', f2, p4, rfl, rfl⟩ := for_ok (body := MB2) (tg := .name 4) (I := fun env M' => ∃ o4, env = [some (.cell 0), some (.d (tis P)), some (.d (.int (P.length : Nat))), some (.d (ti (x :: r))), o4] ∧ M' = St a1 b1 Mt) (badV x r) (fun d hd env M' hI => by
      obtain ⟨o4, rfl, rfl⟩ := hI
      exact ⟨_, _, _, rfl, mb2_ok (badV_no h.pd hlr d hd), _, rfl, rfl⟩) [some (.cell 0), some (.d (tis P)), some (.d (.int (P.length : Nat))), some (.d (ti (x :: r))), o4] (St a1 b1 Mt) ⟨o4, rfl, rfl⟩
    unfold F_law_malformed_holds
    refine e_fn rfl ?_
    rw [TM_eq]
    have s2 : (sAsg 2 false (sArgs lenOp (sCons (sVar 1) sNil))) (initEnv 5 [.cell 0, .d (tis P)]) (St a b Mt) = .ok (.next [some (.cell 0), some (.d (tis P)), some (.d (.int (P.length : Nat))), none, none]) (St a b Mt) := by
      refine el_start ?_
      repeat' (first | (wtm_at "mpA") | (with_reducible apply e_call (ll _)) | (wtm_at "mp1"))
      rfl
    have s3 : (sAsg 3 false (sArgs F_law_drawn (sCons (sVar 0) (sCons (sVar 2) (sCons (sCon (.int 0)) (sCons (sCon (.int 5)) sNil)))))) [some (.cell 0), some (.d (tis P)), some (.d (.int (P.length : Nat))), none, none] (St a b Mt) = .ok (.next [some (.cell 0), some (.d (tis P)), some (.d (.int (P.length : Nat))), some (.d (ti (x :: r))), none]) (St a1 b1 Mt) := by
      refine el_start ?_
      repeat' (first | (wtm_at "mpA") | (with_reducible apply e_call e1) | (wtm_at "mp1"))
      rfl
    refine e_stmt s2 ?_
    refine e_stmt s3 ?_
    refine e_seq (e_for (i_seq (e_is ml1_ok (o_itF ?_))))
    refine e_is f1 (k_next ?_)
    refine e_seq (e_for (i_seq (e_is (ml2_ok (by omega)) (o_itF ?_))))
    refine e_is f2 (k_next ?_)
    refine e_seq (e_is (mr3_ok h.pd vd) (k_ret ?_))
    exact r_dT
end

/-! the law -/
def S1 : SS :=
 (sAsg 1 true (sArgs F_law_state (sCons (sVar 0) sNil)))
def S2 : SS :=
 (sAsg 2 false (sArgs F_law_points (sCons (sVar 1) (sCons (sBin .Add (sCon (.int 1)) (sArgs F_law_take (sCons (sVar 1) (sCons (sCon (.int 4)) sNil)))) sNil))))
def S3 : SS :=
 (sAsg 3 false (sArgs F_law_points (sCons (sVar 1) (sCons (sBin .Add (sCon (.int 5)) (sArgs F_law_take (sCons (sVar 1) (sCons (sCon (.int 8)) sNil)))) sNil))))
def S4b : SS :=
 (sSeq2 (sIfS (sNotB (sB (sArgs F_law_holds (sCons (sVar 1) (sCons (sVar 6) (sCons (sArgs F_law_drawn (sCons (sVar 1) (sCons (sArgs lenOp (sCons (sVar 6) sNil)) (sCons (sVar 7) (sCons (sVar 8) sNil))))) sNil))))))
 (sSeq2 (sRet (sCon (.bl false)))
 sSkip)
 sSkip)
 sSkip)
def S4 : SS := sFor (sSeq (sLst (sCons (sTup (sCons (sVar 2) (sCons (sCon (.int 0)) (sCons (sCon (.int 4)) sNil)))) (sCons (sTup (sCons (sVar 2) (sCons (sNeg (sCon (.int 3))) (sCons (sCon (.int 3)) sNil)))) (sCons (sTup (sCons (sVar 3) (sCons (sCon (.int 0)) (sCons (sCon (.int 9)) sNil)))) (sCons (sTup (sCons (sVar 3) (sCons (sNeg (sCon (.int 6))) (sCons (sCon (.int 20)) sNil)))) sNil)))))) (.tup (.cons (.name 6) (.cons (.name 7) (.cons (.name 8) .nil)))) S4b
def S5 : SS :=
 (sAsgT (.tup (.cons (.name 9) (.cons (.name 10) .nil))) (sTup (sCons (sArgs F_law_done (sCons (sVar 1) (sCons (sVar 3) (sCons (sArgs F_law_drawn (sCons (sVar 1) (sCons (sArgs lenOp (sCons (sVar 3) sNil)) (sCons (sCon (.int 0)) (sCons (sCon (.int 7)) sNil))))) sNil)))) (sCons (sArgs F_law_done (sCons (sVar 1) (sCons (sVar 3) (sCons (sArgs F_law_drawn (sCons (sVar 1) (sCons (sArgs lenOp (sCons (sVar 3) sNil)) (sCons (sCon (.int 0)) (sCons (sCon (.int 7)) sNil))))) sNil)))) sNil))))
def S6 : SS :=
 (sAsg 4 false (sArgs tupleOp (sCons (sComp (sRng (sCons (sArgs lenOp (sCons (sVar 3) sNil)) sNil)) (.name 11) sYes (sBin .Add (sIdx (sVar 9) (sVar 11)) (sIdx (sVar 10) (sVar 11))) (([("p", 11)] : List (Str × Nat)).map (·.2))) sNil)))
def S7 : SS :=
 (sAsg 5 false (sArgs tupleOp (sCons (sComp (sRng (sCons (sArgs lenOp (sCons (sVar 3) sNil)) sNil)) (.name 11) sYes (sArgs minOp2 (sCons (sIdx (sVar 9) (sVar 11)) (sCons (sIdx (sVar 10) (sVar 11)) sNil))) (([("p", 11)] : List (Str × Nat)).map (·.2))) sNil)))
def S8 : SS :=
 (sIfS (sOrB (sNotB (sB (sArgs F_law_tells (sCons (sCon (.fn "unloaded")) (sCons (sTup (sCons (sVar 3) (sCons (sVar 4) sNil))) (sCons (sVar 4) sNil)))))) (sNotB (sB (sArgs F_law_tells (sCons (sCon (.fn "unloaded")) (sCons (sTup (sCons (sVar 3) (sCons (sVar 5) sNil))) (sCons (sVar 5) sNil)))))))
 (sSeq2 (sRet (sCon (.bl false)))
 sSkip)
 sSkip)
def S9 : SS :=
 (sRet (sArgs F_law_malformed_holds (sCons (sVar 1) (sCons (sVar 3) sNil))))
theorem Tlaw_eq : Tlaw = (sSeq2 S1 (sSeq2 S2 (sSeq2 S3 (sSeq2 S4 (sSeq2 S5 (sSeq2 S6 (sSeq2 S7 (sSeq2 S8 (sSeq2 S9 sSkip))))))))) := rfl
theorem state_ok (ns : List Int) : ∃ a b, F_law_state [.scr ns] [] = .ok (.fr [.int a, .int b]) [] := by
  have loop := for_ok (body := (sSeq2 (sAsg 1 false (sBin .Add (sBin .Mult (sVar 1) (sCon (.int 1000003))) (sArgs absOp (sCons (sVar 3) sNil))))
    (sSeq2 (sAsg 2 false (sBin .Mod (sArgs intOp (sCons (sBin .Add (sBin .Mult (sVar 2) (sCon (.int 48271))) (sVar 3)) sNil)) (sCon (.int 2147483647))))
    sSkip))) (tg := .name 3) (I := fun env M => M = [] ∧ ∃ a b o3, env = [some (.scr ns), some (.d (.int a)), some (.d (.int b)), o3]) (cutG (ns.map D.int) none (some 63)) (fun d hd env M h => by
      obtain ⟨n, _, rfl⟩ := List.mem_map.mp (mem_cutG hd)
      obtain ⟨rfl, a, b, o3, rfl⟩ := h
      refine ⟨_, _, _, rfl, el_start ?_, rfl, a * 1000003 + n.natAbs, (b * 48271 + n) % 2147483647, some (.d (.int n)), rfl⟩
      repeat' (first | (wtm_at "mpA") | (wtm_at "mp2"))
      rfl)
  obtain ⟨env', M', e, rfl, a, b, o3, rfl⟩ := loop [some (.scr ns), some (.d (.int 0)), some (.d (.int 1)), none] [] ⟨rfl, 0, 1, _, rfl⟩
  refine ⟨a, b, ?_⟩
  unfold F_law_state
  refine e_fn rfl ?_
  unfold T_law_state
  repeat' (first | (wtm_at "mpA") | (wtm_at "mp2"))
  refine e_eq e ?_
  repeat' (first | (wtm_at "mpA") | (wtm_at "mp2"))
  rfl
abbrev LE (ns : List Int) (o2 o3 o4 o5 o6 o7 o8 o9 o10 o11 : Option AV) : Env := [some (.scr ns), some (.cell 0), o2, o3, o4, o5, o6, o7, o8, o9, o10, o11]
/-! sums and least ones of consistent rows -/
section
variable {P : List (List Int)} {v w : List Int}
def addW (n : Nat) (v w : List Int) : List Int := (List.range n).map fun k => v.getD k 0 + w.getD k 0
def minW (n : Nat) (v w : List Int) : List Int := (List.range n).map fun k => min (v.getD k 0) (w.getD k 0)
theorem mapW_get {n : Nat} {f : Nat → Int} {k : Nat} (hk : k < n) : ((List.range n).map f).getD k 0 = f k := by
  rw [List.getD_eq_getElem?_getD, List.getElem?_map, List.getElem?_range hk]
  rfl
theorem mapW_len {n : Nat} {f : Nat → Int} : ((List.range n).map f).length = n := by rw [List.length_map, List.length_range]
theorem cons_add (p : PtB P) (hv : Cons P v) (hw : Cons P w) : Cons P (addW P.length v w) := ⟨mapW_len, fun j hj => by
  have h1 := hv.ex j hj
  have h2 := hw.ex j hj
  rw [exV_A p.vp hv.len hj] at h1
  rw [exV_A p.vp hw.len hj] at h2
  have hg : ∀ k, k < P.length → (addW P.length v w).getD k 0 = v.getD k 0 + w.getD k 0 := fun k hk => mapW_get hk
  rw [exV_A (w := addW P.length v w) p.vp mapW_len hj, sg_congr (g := fun k => v.getD k 0 * mA P j k + w.getD k 0 * mA P j k) fun k hk => by rw [hg k hk, Int.add_mul], sg_add]
  omega⟩
theorem cons_min (p : PtB P) (hv : Cons P v) (hw : Cons P w) : Cons P (minW P.length v w) := ⟨mapW_len, fun j hj => by
  have g : ∀ u : List Int, Cons P u → (∀ k, k < P.length → (minW P.length v w).getD k 0 ≤ u.getD k 0) → (minW P.length v w).getD j 0 = u.getD j 0 → 0 ≤ (exV P (minW P.length v w)).getD j 0 := fun u hu hle he => by
    have h1 := hu.ex j hj
    rw [exV_A p.vp hu.len hj] at h1
    rw [exV_A (w := minW P.length v w) p.vp mapW_len hj]
    refine Int.le_trans h1 (sg_le fun k hk => ?_)
    by_cases e : k = j
    · subst e
      rw [he]
      exact Int.le_refl _
    · exact Int.mul_le_mul_of_nonpos_right (hle k hk) (mA_le p.vp p.st p.su p.si e)
  have e : ∀ k, k < P.length → (minW P.length v w).getD k 0 = min (v.getD k 0) (w.getD k 0) := fun k hk => mapW_get hk
  by_cases h : v.getD j 0 ≤ w.getD j 0
  · exact g v hv (fun k hk => by rw [e k hk]; exact Int.min_le_left _ _) (by rw [e j hj]; exact Int.min_eq_left h)
  · exact g w hw (fun k hk => by rw [e k hk]; exact Int.min_le_right _ _) (by rw [e j hj]; exact Int.min_eq_right (by omega))⟩
end
section
variable {ns : List Int} {a b : Int} {M Mt : Mem} {o2 o3 o4 o5 o6 o7 o8 o9 o10 o11 : Option AV} {F P v w : List (List Int)}
theorem s1_ok (ns : List Int) : ∃ a b, S1 [some (.scr ns), none, none, none, none, none, none, none, none, none, none, none] [] = .ok (.next (LE ns none none none none none none none none none none)) (St a b []) := by
  obtain ⟨a, b, hs⟩ := state_ok ns
  refine ⟨a, b, el_start ?_⟩
  unfold S1
  repeat' (first | (wtm_at "mpA") | (with_reducible apply e_call hs) | (wtm_at "mp1"))
  rfl
theorem s2_ok : ∃ t a' b', S2 (LE ns none o3 o4 o5 o6 o7 o8 o9 o10 o11) (St a b []) = .ok (.next (LE ns (some (.d (tis ([] :: t)))) o3 o4 o5 o6 o7 o8 o9 o10 o11)) (St a' b' []) ∧ PA3 ([] :: t) := by
  obtain ⟨r1, a1, b1, e1, f1⟩ := take_ok (m := 4) (a := a) (b := b) (Mt := []) (by decide)
  obtain ⟨t, a2, b2, e2, h1, h2⟩ := lpoints_ok (many := 1 + r1) (a := a1) (b := b1) (Mt := []) (by omega)
  refine ⟨t, a2, b2, el_start ?_, pa3_ok h1 (by omega)⟩
  unfold S2
  repeat' (first | (wtm_at "mpA") | (with_reducible apply e_call e1) | (with_reducible apply e_call e2) | (wtm_at "mp1"))
  rfl
theorem s3_ok : ∃ t a' b', S3 (LE ns o2 none o4 o5 o6 o7 o8 o9 o10 o11) (St a b []) = .ok (.next (LE ns o2 (some (.d (tis ([] :: t)))) o4 o5 o6 o7 o8 o9 o10 o11)) (St a' b' []) ∧ PA3 ([] :: t) := by
  obtain ⟨r1, a1, b1, e1, f1⟩ := take_ok (m := 8) (a := a) (b := b) (Mt := []) (by decide)
  obtain ⟨t, a2, b2, e2, h1, h2⟩ := lpoints_ok (many := 5 + r1) (a := a1) (b := b1) (Mt := []) (by omega)
  refine ⟨t, a2, b2, el_start ?_, pa3_ok h1 (by omega)⟩
  unfold S3
  repeat' (first | (wtm_at "mpA") | (with_reducible apply e_call e1) | (with_reducible apply e_call e2) | (wtm_at "mp1"))
  rfl
theorem ll_tis (P : List (List Int)) (M : Mem) : lenOp [.d (tis P)] M = .ok (.d (.int (P.length : Nat))) M := by
  show Out.ok (AV.d (.int ((P.map ti).length : Nat))) M = _
  rw [List.length_map]
theorem s4b_ok {P : List (List Int)} {lo hi : Int} (h : PA3 P) (hb : -6 ≤ lo ∧ lo ≤ hi ∧ hi ≤ 20) : ∃ a' b', S4b (LE ns o2 o3 o4 o5 (some (.d (tis P))) (some (.d (.int lo))) (some (.d (.int hi))) o9 o10 o11) (St a b []) = .ok (.next (LE ns o2 o3 o4 o5 (some (.d (tis P))) (some (.d (.int lo))) (some (.d (.int hi))) o9 o10 o11)) (St a' b' []) := by
  obtain ⟨v, a1, b1, e1, hl, hv⟩ := drawn_ok (n := P.length) (lo := lo) (hi := hi) (a := a) (b := b) (Mt := []) (by have := h.le; omega) (by omega)
  obtain ⟨a2, b2, e2⟩ := holds_ok (v := v) h ⟨hl, fun k hk => by
    have := getD_all (p := fun x => lo ≤ x ∧ x ≤ hi) hv (k := k) (by omega)
    omega⟩ (a := a1) (b := b1) (Mt := [])
  refine ⟨a2, b2, el_start ?_⟩
  unfold S4b
  repeat' (first | (wtm_at "mpA") | (with_reducible apply e_call (ll_tis _ _)) | (with_reducible apply e_call e1) | (with_reducible apply e_call e2) | (wtm_at "mp1"))
  rfl
theorem s4_ok {F P : List (List Int)} (hF : PA3 F) (h : PA3 P) : ∃ a' b' o6 o7 o8, S4 (LE ns (some (.d (tis F))) (some (.d (tis P))) o4 o5 none none none o9 o10 o11) (St a b []) = .ok (.next (LE ns (some (.d (tis F))) (some (.d (tis P))) o4 o5 o6 o7 o8 o9 o10 o11)) (St a' b' []) := by
  obtain ⟨env', M', e, a', b', o6, o7, o8, rfl, rfl⟩ := for_ok (body := S4b) (tg := (.tup (.cons (.name 6) (.cons (.name 7) (.cons (.name 8) .nil))))) (I := fun env M' => ∃ a b o6 o7 o8, env = LE ns (some (.d (tis F))) (some (.d (tis P))) o4 o5 o6 o7 o8 o9 o10 o11 ∧ M' = St a b [])
    [.tup [tis F, .int 0, .int 4], .tup [tis F, .int (-3), .int 3], .tup [tis P, .int 0, .int 9], .tup [tis P, .int (-6), .int 20]] (fun d hd env M' hI => by
      obtain ⟨a, b, o6, o7, o8, rfl, rfl⟩ := hI
      have g : ∀ (Q : List (List Int)) (lo hi : Int), PA3 Q → (-6 ≤ lo ∧ lo ≤ hi ∧ hi ≤ 20) → d = .tup [tis Q, .int lo, .int hi] → ∃ e env' M', Tg.bind (.tup (.cons (.name 6) (.cons (.name 7) (.cons (.name 8) .nil)))) d (LE ns (some (.d (tis F))) (some (.d (tis P))) o4 o5 o6 o7 o8 o9 o10 o11) = some e ∧ S4b e (St a b []) = .ok (.next env') M' ∧ ∃ a b o6 o7 o8, env' = LE ns (some (.d (tis F))) (some (.d (tis P))) o4 o5 o6 o7 o8 o9 o10 o11 ∧ M' = St a b [] := fun Q lo hi hQ hb ed => by
        subst ed
        obtain ⟨a2, b2, e2⟩ := s4b_ok (ns := ns) (P := Q) (lo := lo) (hi := hi) hQ hb (a := a) (b := b) (o2 := (some (.d (tis F)))) (o3 := (some (.d (tis P)))) (o4 := o4) (o5 := o5) (o9 := o9) (o10 := o10) (o11 := o11)
        exact ⟨_, _, _, rfl, e2, a2, b2, _, _, _, rfl, rfl⟩
      simp only [List.mem_cons, List.not_mem_nil, or_false] at hd
      rcases hd with hd | hd | hd | hd
      · exact g F _ _ hF (by decide) hd
      · exact g F _ _ hF (by decide) hd
      · exact g P _ _ h (by decide) hd
      · exact g P _ _ h (by decide) hd) (LE ns (some (.d (tis F))) (some (.d (tis P))) o4 o5 none none none o9 o10 o11) (St a b []) ⟨a, b, none, none, none, rfl, rfl⟩
  refine ⟨a', b', o6, o7, o8, el_start ?_⟩
  unfold S4
  repeat' (first | (wtm_at "mpA") | (wtm_at "mp0"))
  refine (congrArg (fun z => el z _ _) (e : forL _ _ _ _ _ _ = _)).trans ?_
  rfl
theorem d7_ok {P : List (List Int)} (h : PA3 P) : ∃ v w a1 b1 a' b', F_law_drawn [.cell 0, .d (.int (P.length : Nat)), .d (.int 0), .d (.int 7)] (St a b []) = .ok (.d (ti v)) (St a1 b1 []) ∧ F_law_done [.cell 0, .d (tis P), .d (ti v)] (St a1 b1 []) = .ok (.d (ti w)) (St a' b' []) ∧ Cons P w ∧ ∀ k, k < P.length → -6 ≤ w.getD k 0 ∧ w.getD k 0 ≤ 2880 := by
  obtain ⟨v, a1, b1, e1, hl, hv⟩ := drawn_ok (n := P.length) (lo := 0) (hi := 7) (a := a) (b := b) (Mt := []) (by have := h.le; omega) (by decide)
  have r : RB P v := ⟨hl, fun k hk => by
    have := getD_all (p := fun x => 0 ≤ x ∧ x ≤ 7) hv (k := k) (by omega)
    omega⟩
  obtain ⟨w, a2, b2, e2, hw⟩ := done_ok h.pd h.pb hl (K := 20) (by decide) r.le20 (far20 h r) (a := a1) (b := b1) (Mt := [])
  exact ⟨v, w, a1, b1, a2, b2, e1, e2, hw.cons, fun k hk => least_bd h r hw hk⟩
theorem s5_ok {P : List (List Int)} (h : PA3 P) : ∃ v w a' b', S5 (LE ns o2 (some (.d (tis P))) o4 o5 o6 o7 o8 none none o11) (St a b []) = .ok (.next (LE ns o2 (some (.d (tis P))) o4 o5 o6 o7 o8 (some (.d (ti v))) (some (.d (ti w))) o11)) (St a' b' []) ∧ (Cons P v ∧ ∀ k, k < P.length → -6 ≤ v.getD k 0 ∧ v.getD k 0 ≤ 2880) ∧ Cons P w ∧ ∀ k, k < P.length → -6 ≤ w.getD k 0 ∧ w.getD k 0 ≤ 2880 := by
  obtain ⟨v1, w1, a1, b1, a2, b2, e1, e2, h1⟩ := d7_ok h (a := a) (b := b)
  obtain ⟨v2, w2, a3, b3, a4, b4, e3, e4, h2⟩ := d7_ok h (a := a2) (b := b2)
  refine ⟨w1, w2, a4, b4, el_start ?_, h1, h2⟩
  unfold S5
  repeat' (first | (wtm_at "mpA") | (with_reducible apply e_call (ll_tis _ _)) | (with_reducible apply e_call e1) | (with_reducible apply e_call e2) | (with_reducible apply e_call e3) | (with_reducible apply e_call e4) | (wtm_at "mp1"))
  rfl
end
section
variable {ns : List Int} {a b : Int} {M Mt : Mem} {o2 o3 o4 o5 o6 o7 o8 o9 o10 o11 : Option AV} {P : List (List Int)} {v w : List Int}
theorem s6_ok (h : PA3 P) (hv : v.length = P.length) (hw : w.length = P.length) : S6 (LE ns o2 (some (.d (tis P))) none o5 o6 o7 o8 (some (.d (ti v))) (some (.d (ti w))) o11) M = .ok (.next (LE ns o2 (some (.d (tis P))) (some (.d (ti (addW P.length v w)))) o5 o6 o7 o8 (some (.d (ti v))) (some (.d (ti w))) o11)) M := by
  have h12 := h.le
  have hlr : (P.map ti).length ≤ 1000000 := by rw [List.length_map]; omega
  refine el_start ?_
  unfold S6
  repeat' (first | (wtm_at "mpA") | (wtm_at "mp0"))
  rw [List.length_map]
  refine e_compR (fun k => .int (v.getD k 0 + w.getD k 0)) (by omega) (fun k hk => ?_) ?_
  · have i1 : ∀ M, idx (.d (ti v)) (.d (.int (k : Nat))) M = .ok (.d (.int (v.getD k 0))) M := fun M => (row_t v).1 _ M (by omega)
    have i2 : ∀ M, idx (.d (ti w)) (.d (.int (k : Nat))) M = .ok (.d (.int (w.getD k 0))) M := fun M => (row_t w).1 _ M (by omega)
    refine ⟨_, rfl, .d (.int (v.getD k 0 + w.getD k 0)), el_start ?_, rfl⟩
    repeat' (first | (wtm_at "mpA") | (with_reducible apply p_idx (i1 _)) | (with_reducible apply p_idx (i2 _)) | (wtm_at "mp1"))
    try rfl
  · have e : (List.range P.length).map (fun k => D.int (v.getD k 0 + w.getD k 0)) = (addW P.length v w).map .int := by
      unfold addW
      rw [List.map_map]
      rfl
    rw [e]
    repeat' (first | (wtm_at "mpA") | (with_reducible apply e_call tup_lst) | (wtm_at "mp1"))
    try rfl
theorem s7_ok (h : PA3 P) (hv : v.length = P.length) (hw : w.length = P.length) : S7 (LE ns o2 (some (.d (tis P))) o4 none o6 o7 o8 (some (.d (ti v))) (some (.d (ti w))) o11) M = .ok (.next (LE ns o2 (some (.d (tis P))) o4 (some (.d (ti (minW P.length v w)))) o6 o7 o8 (some (.d (ti v))) (some (.d (ti w))) o11)) M := by
  have h12 := h.le
  have hlr : (P.map ti).length ≤ 1000000 := by rw [List.length_map]; omega
  refine el_start ?_
  unfold S7
  repeat' (first | (wtm_at "mpA") | (wtm_at "mp0"))
  rw [List.length_map]
  refine e_compR (fun k => .int (min (v.getD k 0) (w.getD k 0))) (by omega) (fun k hk => ?_) ?_
  · have i1 : ∀ M, idx (.d (ti v)) (.d (.int (k : Nat))) M = .ok (.d (.int (v.getD k 0))) M := fun M => (row_t v).1 _ M (by omega)
    have i2 : ∀ M, idx (.d (ti w)) (.d (.int (k : Nat))) M = .ok (.d (.int (w.getD k 0))) M := fun M => (row_t w).1 _ M (by omega)
    refine ⟨_, rfl, .d (.int (min (v.getD k 0) (w.getD k 0))), el_start ?_, rfl⟩
    repeat' (first | (wtm_at "mpA") | (with_reducible apply p_idx (i1 _)) | (with_reducible apply p_idx (i2 _)) | (wtm_at "mp1"))
    try rfl
  · have e : (List.range P.length).map (fun k => D.int (min (v.getD k 0) (w.getD k 0))) = (minW P.length v w).map .int := by
      unfold minW
      rw [List.map_map]
      rfl
    rw [e]
    repeat' (first | (wtm_at "mpA") | (with_reducible apply e_call tup_lst) | (wtm_at "mp1"))
    try rfl
theorem tell_self (h : PA3 P) (hw : Cons P w) (hb : ∀ k, k < P.length → -100000 ≤ w.getD k 0 ∧ w.getD k 0 ≤ 100000) (M : Mem) : F_law_tells [.d (.fn "unloaded"), .d (.tup [tis P, ti w]), .d (ti w)] M = .ok (.d (.bl true)) M :=
  tellU h.pd (goodW_ok (by have := h.le; omega) hw.len (wb_of hw.len (C := 100000) (by decide) hb)) (by rw [hw.len]; have := h.le; omega) (steps_self h hw) M
theorem s8_ok (h : PA3 P) (hv : Cons P v ∧ ∀ k, k < P.length → -6 ≤ v.getD k 0 ∧ v.getD k 0 ≤ 2880) (hw : Cons P w ∧ ∀ k, k < P.length → -6 ≤ w.getD k 0 ∧ w.getD k 0 ≤ 2880) : S8 (LE ns o2 (some (.d (tis P))) (some (.d (ti (addW P.length v w)))) (some (.d (ti (minW P.length v w)))) o6 o7 o8 o9 o10 o11) M = .ok (.next (LE ns o2 (some (.d (tis P))) (some (.d (ti (addW P.length v w)))) (some (.d (ti (minW P.length v w)))) o6 o7 o8 o9 o10 o11)) M := by
  have t1 := tell_self h (cons_add h.pb hv.1 hw.1) fun k hk => by
    have e : (addW P.length v w).getD k 0 = v.getD k 0 + w.getD k 0 := mapW_get hk
    have := hv.2 k hk
    have := hw.2 k hk
    omega
  have t2 := tell_self h (cons_min h.pb hv.1 hw.1) fun k hk => by
    have e : (minW P.length v w).getD k 0 = min (v.getD k 0) (w.getD k 0) := mapW_get hk
    have := hv.2 k hk
    have := hw.2 k hk
    omega
  refine el_start ?_
  unfold S8
  repeat' (first | (wtm_at "mpA") | (with_reducible apply e_call (t1 _)) | (with_reducible apply e_call (t2 _)) | (wtm_at "mp1"))
  rfl
theorem s9_ok (h : PA3 P) : ∃ a' b', S9 (LE ns o2 (some (.d (tis P))) o4 o5 o6 o7 o8 o9 o10 o11) (St a b []) = .ok (.ret (.d (.bl true))) (St a' b' []) := by
  obtain ⟨a', b', e⟩ := malf_ok h (a := a) (b := b) (Mt := [])
  refine ⟨a', b', el_start ?_⟩
  unfold S9
  repeat' (first | (wtm_at "mpA") | (with_reducible apply e_call e) | (wtm_at "mp1"))
  try rfl
end
theorem law_true : ∀ ns : List Int, ns.length ≤ 63 → ∃ M, Flaw [.scr ns] [] = .ok (.d (.bl true)) M := by
  intro ns _
  obtain ⟨a1, b1, e1⟩ := s1_ok ns
  obtain ⟨t2, a2, b2, e2, hF⟩ := s2_ok (ns := ns) (a := a1) (b := b1) (o3 := none) (o4 := none) (o5 := none) (o6 := none) (o7 := none) (o8 := none) (o9 := none) (o10 := none) (o11 := none)
  generalize ([] : List Int) :: t2 = F at *
  obtain ⟨t3, a3, b3, e3, hP⟩ := s3_ok (ns := ns) (a := a2) (b := b2) (o2 := some (.d (tis F))) (o4 := none) (o5 := none) (o6 := none) (o7 := none) (o8 := none) (o9 := none) (o10 := none) (o11 := none)
  generalize ([] : List Int) :: t3 = P at *
  obtain ⟨a4, b4, p6, p7, p8, e4⟩ := s4_ok (ns := ns) (a := a3) (b := b3) (o4 := none) (o5 := none) (o9 := none) (o10 := none) (o11 := none) hF hP
  obtain ⟨v, w, a5, b5, e5, hv, hw⟩ := s5_ok (ns := ns) (a := a4) (b := b4) (o2 := some (.d (tis F))) (o4 := none) (o5 := none) (o6 := p6) (o7 := p7) (o8 := p8) (o11 := none) hP
  have e6 := s6_ok (ns := ns) (M := St a5 b5 []) (o2 := some (.d (tis F))) (o5 := none) (o6 := p6) (o7 := p7) (o8 := p8) (o11 := none) hP hv.1.len hw.1.len
  have e7 := s7_ok (ns := ns) (M := St a5 b5 []) (o2 := some (.d (tis F))) (o4 := some (.d (ti (addW P.length v w)))) (o6 := p6) (o7 := p7) (o8 := p8) (o11 := none) hP hv.1.len hw.1.len
  have e8 := s8_ok (ns := ns) (M := St a5 b5 []) (o2 := some (.d (tis F))) (o6 := p6) (o7 := p7) (o8 := p8) (o9 := some (.d (ti v))) (o10 := some (.d (ti w))) (o11 := none) hP hv hw
  obtain ⟨a9, b9, e9⟩ := s9_ok (ns := ns) (a := a5) (b := b5) (o2 := some (.d (tis F))) (o4 := some (.d (ti (addW P.length v w)))) (o5 := some (.d (ti (minW P.length v w)))) (o6 := p6) (o7 := p7) (o8 := p8) (o9 := some (.d (ti v))) (o10 := some (.d (ti w))) (o11 := none) hP
  refine ⟨[], ?_⟩
  unfold Flaw
  refine e_fn rfl ?_
  rw [Tlaw_eq]
  refine e_stmt e1 ?_
  refine e_stmt e2 ?_
  refine e_stmt e3 ?_
  refine e_stmt e4 ?_
  refine e_stmt e5 ?_
  refine e_stmt e6 ?_
  refine e_stmt e7 ?_
  refine e_stmt e8 ?_
  refine e_seq (e_is e9 ?_)
  rfl

theorem all_mk {w : World} {K : PySem.W.Frag} {h : Heap} {mg : Str → Option Value} {fa : Addr} (X : K.In h) (G : h.Ns mainGlobals mg) (hfa : mg "law" = some (.ref fa))
    {tkMOST_POINTS : Tok}
    {tkMOST_WEIGHT : Tok}
    {f0 : Addr} {oc0 kV0 dc0 pm0 cd0 ct0 : Value} {od0 an0 : Option Addr} {sl0 : Array (Option Value)}
    {f1 : Addr} {oc1 kV1 dc1 pm1 cd1 ct1 : Value} {od1 an1 : Option Addr} {sl1 : Array (Option Value)}
    {f2 : Addr} {oc2 kV2 dc2 pm2 cd2 ct2 : Value} {od2 an2 : Option Addr} {sl2 : Array (Option Value)}
    {f3 : Addr} {oc3 kV3 dc3 pm3 cd3 ct3 : Value} {od3 an3 : Option Addr} {sl3 : Array (Option Value)}
    {f4 : Addr} {oc4 kV4 dc4 pm4 cd4 ct4 : Value} {od4 an4 : Option Addr} {sl4 : Array (Option Value)}
    {f5 : Addr} {oc5 kV5 dc5 pm5 cd5 ct5 : Value} {od5 an5 : Option Addr} {sl5 : Array (Option Value)}
    {f6 : Addr} {oc6 kV6 dc6 pm6 cd6 ct6 : Value} {od6 an6 : Option Addr} {sl6 : Array (Option Value)}
    {f7 : Addr} {oc7 kV7 dc7 pm7 cd7 ct7 : Value} {od7 an7 : Option Addr} {sl7 : Array (Option Value)}
    {f8 : Addr} {oc8 kV8 dc8 pm8 cd8 ct8 : Value} {od8 an8 : Option Addr} {sl8 : Array (Option Value)}
    {f9 : Addr} {oc9 kV9 dc9 pm9 cd9 ct9 : Value} {od9 an9 : Option Addr} {sl9 : Array (Option Value)}
    {f10 : Addr} {oc10 kV10 dc10 pm10 cd10 ct10 : Value} {od10 an10 : Option Addr} {sl10 : Array (Option Value)}
    {f11 : Addr} {oc11 kV11 dc11 pm11 cd11 ct11 : Value} {od11 an11 : Option Addr} {sl11 : Array (Option Value)}
    {f12 : Addr} {oc12 kV12 dc12 pm12 cd12 ct12 : Value} {od12 an12 : Option Addr} {sl12 : Array (Option Value)}
    {f13 : Addr} {oc13 kV13 dc13 pm13 cd13 ct13 : Value} {od13 an13 : Option Addr} {sl13 : Array (Option Value)}
    {f14 : Addr} {oc14 kV14 dc14 pm14 cd14 ct14 : Value} {od14 an14 : Option Addr} {sl14 : Array (Option Value)}
    {f15 : Addr} {oc15 kV15 dc15 pm15 cd15 ct15 : Value} {od15 an15 : Option Addr} {sl15 : Array (Option Value)}
    {f16 : Addr} {oc16 kV16 dc16 pm16 cd16 ct16 : Value} {od16 an16 : Option Addr} {sl16 : Array (Option Value)}
    {f17 : Addr} {oc17 kV17 dc17 pm17 cd17 ct17 : Value} {od17 an17 : Option Addr} {sl17 : Array (Option Value)}
    {f18 : Addr} {oc18 kV18 dc18 pm18 cd18 ct18 : Value} {od18 an18 : Option Addr} {sl18 : Array (Option Value)}
    {f19 : Addr} {oc19 kV19 dc19 pm19 cd19 ct19 : Value} {od19 an19 : Option Addr} {sl19 : Array (Option Value)}
    {f20 : Addr} {oc20 kV20 dc20 pm20 cd20 ct20 : Value} {od20 an20 : Option Addr} {sl20 : Array (Option Value)}
    {f21 : Addr} {oc21 kV21 dc21 pm21 cd21 ct21 : Value} {od21 an21 : Option Addr} {sl21 : Array (Option Value)}
    {f22 : Addr} {oc22 kV22 dc22 pm22 cd22 ct22 : Value} {od22 an22 : Option Addr} {sl22 : Array (Option Value)}
    {f23 : Addr} {oc23 kV23 dc23 pm23 cd23 ct23 : Value} {od23 an23 : Option Addr} {sl23 : Array (Option Value)}
    {f24 : Addr} {oc24 kV24 dc24 pm24 cd24 ct24 : Value} {od24 an24 : Option Addr} {sl24 : Array (Option Value)}
    {f25 : Addr} {oc25 kV25 dc25 pm25 cd25 ct25 : Value} {od25 an25 : Option Addr} {sl25 : Array (Option Value)}
    {f26 : Addr} {oc26 kV26 dc26 pm26 cd26 ct26 : Value} {od26 an26 : Option Addr} {sl26 : Array (Option Value)}
    {f27 : Addr} {oc27 kV27 dc27 pm27 cd27 ct27 : Value} {od27 an27 : Option Addr} {sl27 : Array (Option Value)}
    {f28 : Addr} {oc28 kV28 dc28 pm28 cd28 ct28 : Value} {od28 an28 : Option Addr} {sl28 : Array (Option Value)}
    {f29 : Addr} {oc29 kV29 dc29 pm29 cd29 ct29 : Value} {od29 an29 : Option Addr} {sl29 : Array (Option Value)}
    {f30 : Addr} {oc30 kV30 dc30 pm30 cd30 ct30 : Value} {od30 an30 : Option Addr} {sl30 : Array (Option Value)}
    {f31 : Addr} {oc31 kV31 dc31 pm31 cd31 ct31 : Value} {od31 an31 : Option Addr} {sl31 : Array (Option Value)}
    {f32 : Addr} {oc32 kV32 dc32 pm32 cd32 ct32 : Value} {od32 an32 : Option Addr} {sl32 : Array (Option Value)}
    {f33 : Addr} {oc33 kV33 dc33 pm33 cd33 ct33 : Value} {od33 an33 : Option Addr} {sl33 : Array (Option Value)}
    {CM CR fR CF cda cc NR : Addr} {nmR qR qn fileR : Str} {tfR : Tok} {bsR : List Value} {snR : List Str} {subR : List Value} {abR : Bool} {colR : Option Bool} {ddR : Option Addr} {mR0 mR1 mR2 mR3 mR5 : Option Value} {ocR dcR pmR ctR cclR clR : Value} {odR anR cddR cldR : Option Addr} {oslR ccsR cslR : Array (Option Value)} {vsR : Array Value}
    (z_abs : PySem.W.nsIn K mainGlobals "abs" = some none)
    (z_all : PySem.W.nsIn K mainGlobals "all" = some none)
    (z_bool : PySem.W.nsIn K mainGlobals "bool" = some none)
    (z_enumerate : PySem.W.nsIn K mainGlobals "enumerate" = some none)
    (z_int : PySem.W.nsIn K mainGlobals "int" = some none)
    (z_isinstance : PySem.W.nsIn K mainGlobals "isinstance" = some none)
    (z_len : PySem.W.nsIn K mainGlobals "len" = some none)
    (z_list : PySem.W.nsIn K mainGlobals "list" = some none)
    (z_min : PySem.W.nsIn K mainGlobals "min" = some none)
    (z_range : PySem.W.nsIn K mainGlobals "range" = some none)
    (z_str : PySem.W.nsIn K mainGlobals "str" = some none)
    (z_sum : PySem.W.nsIn K mainGlobals "sum" = some none)
    (z_tuple : PySem.W.nsIn K mainGlobals "tuple" = some none)
    (y_MOST_POINTS : PySem.W.nsIn K mainGlobals "MOST_POINTS" = some (some (.int 60 tkMOST_POINTS)))
    (y_MOST_WEIGHT : PySem.W.nsIn K mainGlobals "MOST_WEIGHT" = some (some (.int 100000 tkMOST_WEIGHT)))
    (a0 : PySem.W.nsIn K mainGlobals "is_integer" = some (some (.ref f0)))
    (l0 : K.lookup f0 = some ⟨oc0, od0, .func (PySem.W.fnOf "is_integer" "is_integer" (defArgs stis_integer) (defBody stis_integer) (defScope stis_integer) .none kV0 dc0 pm0 an0 cd0 ct0), sl0⟩)
    (c0 : PySem.W.codeIn K cd0 "is_integer" = true)
    (k0 : PySem.W.keepIn K (.ref f0) = true)
    (a1 : PySem.W.nsIn K mainGlobals "is_item" = some (some (.ref f1)))
    (l1 : K.lookup f1 = some ⟨oc1, od1, .func (PySem.W.fnOf "is_item" "is_item" (defArgs stis_item) (defBody stis_item) (defScope stis_item) .none kV1 dc1 pm1 an1 cd1 ct1), sl1⟩)
    (c1 : PySem.W.codeIn K cd1 "is_item" = true)
    (k1 : PySem.W.keepIn K (.ref f1) = true)
    (a2 : PySem.W.nsIn K mainGlobals "is_points" = some (some (.ref f2)))
    (l2 : K.lookup f2 = some ⟨oc2, od2, .func (PySem.W.fnOf "is_points" "is_points" (defArgs stis_points) (defBody stis_points) (defScope stis_points) .none kV2 dc2 pm2 an2 cd2 ct2), sl2⟩)
    (c2 : PySem.W.codeIn K cd2 "is_points" = true)
    (k2 : PySem.W.keepIn K (.ref f2) = true)
    (a3 : PySem.W.nsIn K mainGlobals "check_points" = some (some (.ref f3)))
    (l3 : K.lookup f3 = some ⟨oc3, od3, .func (PySem.W.fnOf "check_points" "check_points" (defArgs stcheck_points) (defBody stcheck_points) (defScope stcheck_points) .none kV3 dc3 pm3 an3 cd3 ct3), sl3⟩)
    (c3 : PySem.W.codeIn K cd3 "check_points" = true)
    (k3 : PySem.W.keepIn K (.ref f3) = true)
    (a4 : PySem.W.nsIn K mainGlobals "is_weight_row" = some (some (.ref f4)))
    (l4 : K.lookup f4 = some ⟨oc4, od4, .func (PySem.W.fnOf "is_weight_row" "is_weight_row" (defArgs stis_weight_row) (defBody stis_weight_row) (defScope stis_weight_row) .none kV4 dc4 pm4 an4 cd4 ct4), sl4⟩)
    (c4 : PySem.W.codeIn K cd4 "is_weight_row" = true)
    (k4 : PySem.W.keepIn K (.ref f4) = true)
    (a5 : PySem.W.nsIn K mainGlobals "check_weighted" = some (some (.ref f5)))
    (l5 : K.lookup f5 = some ⟨oc5, od5, .func (PySem.W.fnOf "check_weighted" "check_weighted" (defArgs stcheck_weighted) (defBody stcheck_weighted) (defScope stcheck_weighted) .none kV5 dc5 pm5 an5 cd5 ct5), sl5⟩)
    (c5 : PySem.W.codeIn K cd5 "check_weighted" = true)
    (k5 : PySem.W.keepIn K (.ref f5) = true)
    (a6 : PySem.W.nsIn K mainGlobals "excess_list" = some (some (.ref f6)))
    (l6 : K.lookup f6 = some ⟨oc6, od6, .func (PySem.W.fnOf "excess_list" "excess_list" (defArgs stexcess_list) (defBody stexcess_list) (defScope stexcess_list) .none kV6 dc6 pm6 an6 cd6 ct6), sl6⟩)
    (c6 : PySem.W.codeIn K cd6 "excess_list" = true)
    (k6 : PySem.W.keepIn K (.ref f6) = true)
    (a7 : PySem.W.nsIn K mainGlobals "multiplicities_from" = some (some (.ref f7)))
    (l7 : K.lookup f7 = some ⟨oc7, od7, .func (PySem.W.fnOf "multiplicities_from" "multiplicities_from" (defArgs stmultiplicities_from) (defBody stmultiplicities_from) (defScope stmultiplicities_from) .none kV7 dc7 pm7 an7 cd7 ct7), sl7⟩)
    (c7 : PySem.W.codeIn K cd7 "multiplicities_from" = true)
    (k7 : PySem.W.keepIn K (.ref f7) = true)
    (a8 : PySem.W.nsIn K mainGlobals "excesses_from" = some (some (.ref f8)))
    (l8 : K.lookup f8 = some ⟨oc8, od8, .func (PySem.W.fnOf "excesses_from" "excesses_from" (defArgs stexcesses_from) (defBody stexcesses_from) (defScope stexcesses_from) .none kV8 dc8 pm8 an8 cd8 ct8), sl8⟩)
    (c8 : PySem.W.codeIn K cd8 "excesses_from" = true)
    (k8 : PySem.W.keepIn K (.ref f8) = true)
    (a9 : PySem.W.nsIn K mainGlobals "own_meetings" = some (some (.ref f9)))
    (l9 : K.lookup f9 = some ⟨oc9, od9, .func (PySem.W.fnOf "own_meetings" "own_meetings" (defArgs stown_meetings) (defBody stown_meetings) (defScope stown_meetings) .none kV9 dc9 pm9 an9 cd9 ct9), sl9⟩)
    (c9 : PySem.W.codeIn K cd9 "own_meetings" = true)
    (k9 : PySem.W.keepIn K (.ref f9) = true)
    (a10 : PySem.W.nsIn K mainGlobals "steps_from" = some (some (.ref f10)))
    (l10 : K.lookup f10 = some ⟨oc10, od10, .func (PySem.W.fnOf "steps_from" "steps_from" (defArgs ststeps_from) (defBody ststeps_from) (defScope ststeps_from) .none kV10 dc10 pm10 an10 cd10 ct10), sl10⟩)
    (c10 : PySem.W.codeIn K cd10 "steps_from" = true)
    (k10 : PySem.W.keepIn K (.ref f10) = true)
    (a11 : PySem.W.nsIn K mainGlobals "unloaded" = some (some (.ref f11)))
    (l11 : K.lookup f11 = some ⟨oc11, od11, .func (PySem.W.fnOf "unloaded" "unloaded" (defArgs stunloaded) (defBody stunloaded) (defScope stunloaded) .none kV11 dc11 pm11 an11 cd11 ct11), sl11⟩)
    (c11 : PySem.W.codeIn K cd11 "unloaded" = true)
    (k11 : PySem.W.keepIn K (.ref f11) = true)
    (a12 : PySem.W.nsIn K mainGlobals "codimension_of" = some (some (.ref f12)))
    (l12 : K.lookup f12 = some ⟨oc12, od12, .func (PySem.W.fnOf "codimension_of" "codimension_of" (defArgs stcodimension_of) (defBody stcodimension_of) (defScope stcodimension_of) .none kV12 dc12 pm12 an12 cd12 ct12), sl12⟩)
    (c12 : PySem.W.codeIn K cd12 "codimension_of" = true)
    (k12 : PySem.W.keepIn K (.ref f12) = true)
    (a13 : PySem.W.nsIn K mainGlobals "check_values" = some (some (.ref f13)))
    (l13 : K.lookup f13 = some ⟨oc13, od13, .func (PySem.W.fnOf "check_values" "check_values" (defArgs stcheck_values) (defBody stcheck_values) (defScope stcheck_values) .none kV13 dc13 pm13 an13 cd13 ct13), sl13⟩)
    (c13 : PySem.W.codeIn K cd13 "check_values" = true)
    (k13 : PySem.W.keepIn K (.ref f13) = true)
    (a14 : PySem.W.nsIn K mainGlobals "ideal_codimension" = some (some (.ref f14)))
    (l14 : K.lookup f14 = some ⟨oc14, od14, .func (PySem.W.fnOf "ideal_codimension" "ideal_codimension" (defArgs stideal_codimension) (defBody stideal_codimension) (defScope stideal_codimension) .none kV14 dc14 pm14 an14 cd14 ct14), sl14⟩)
    (c14 : PySem.W.codeIn K cd14 "ideal_codimension" = true)
    (k14 : PySem.W.keepIn K (.ref f14) = true)
    (a15 : PySem.W.nsIn K mainGlobals "_law_state" = some (some (.ref f15)))
    (l15 : K.lookup f15 = some ⟨oc15, od15, .func (PySem.W.fnOf "_law_state" "_law_state" (defArgs st_law_state) (defBody st_law_state) (defScope st_law_state) .none kV15 dc15 pm15 an15 cd15 ct15), sl15⟩)
    (c15 : PySem.W.codeIn K cd15 "_law_state" = true)
    (k15 : PySem.W.keepIn K (.ref f15) = true)
    (a16 : PySem.W.nsIn K mainGlobals "_law_take" = some (some (.ref f16)))
    (l16 : K.lookup f16 = some ⟨oc16, od16, .func (PySem.W.fnOf "_law_take" "_law_take" (defArgs st_law_take) (defBody st_law_take) (defScope st_law_take) .none kV16 dc16 pm16 an16 cd16 ct16), sl16⟩)
    (c16 : PySem.W.codeIn K cd16 "_law_take" = true)
    (k16 : PySem.W.keepIn K (.ref f16) = true)
    (a17 : PySem.W.nsIn K mainGlobals "_law_same" = some (some (.ref f17)))
    (l17 : K.lookup f17 = some ⟨oc17, od17, .func (PySem.W.fnOf "_law_same" "_law_same" (defArgs st_law_same) (defBody st_law_same) (defScope st_law_same) .none kV17 dc17 pm17 an17 cd17 ct17), sl17⟩)
    (c17 : PySem.W.codeIn K cd17 "_law_same" = true)
    (k17 : PySem.W.keepIn K (.ref f17) = true)
    (a18 : PySem.W.nsIn K mainGlobals "_law_told" = some (some (.ref f18)))
    (l18 : K.lookup f18 = some ⟨oc18, od18, .func (PySem.W.fnOf "_law_told" "_law_told" (defArgs st_law_told) (defBody st_law_told) (defScope st_law_told) .none kV18 dc18 pm18 an18 cd18 ct18), sl18⟩)
    (c18 : PySem.W.codeIn K cd18 "_law_told" = true)
    (k18 : PySem.W.keepIn K (.ref f18) = true)
    (a19 : PySem.W.nsIn K mainGlobals "_law_is_told" = some (some (.ref f19)))
    (l19 : K.lookup f19 = some ⟨oc19, od19, .func (PySem.W.fnOf "_law_is_told" "_law_is_told" (defArgs st_law_is_told) (defBody st_law_is_told) (defScope st_law_is_told) .none kV19 dc19 pm19 an19 cd19 ct19), sl19⟩)
    (c19 : PySem.W.codeIn K cd19 "_law_is_told" = true)
    (k19 : PySem.W.keepIn K (.ref f19) = true)
    (a20 : PySem.W.nsIn K mainGlobals "_law_is_raised" = some (some (.ref f20)))
    (l20 : K.lookup f20 = some ⟨oc20, od20, .func (PySem.W.fnOf "_law_is_raised" "_law_is_raised" (defArgs st_law_is_raised) (defBody st_law_is_raised) (defScope st_law_is_raised) .none kV20 dc20 pm20 an20 cd20 ct20), sl20⟩)
    (c20 : PySem.W.codeIn K cd20 "_law_is_raised" = true)
    (k20 : PySem.W.keepIn K (.ref f20) = true)
    (a21 : PySem.W.nsIn K mainGlobals "_law_tells" = some (some (.ref f21)))
    (l21 : K.lookup f21 = some ⟨oc21, od21, .func (PySem.W.fnOf "_law_tells" "_law_tells" (defArgs st_law_tells) (defBody st_law_tells) (defScope st_law_tells) .none kV21 dc21 pm21 an21 cd21 ct21), sl21⟩)
    (c21 : PySem.W.codeIn K cd21 "_law_tells" = true)
    (k21 : PySem.W.keepIn K (.ref f21) = true)
    (a22 : PySem.W.nsIn K mainGlobals "_law_raises" = some (some (.ref f22)))
    (l22 : K.lookup f22 = some ⟨oc22, od22, .func (PySem.W.fnOf "_law_raises" "_law_raises" (defArgs st_law_raises) (defBody st_law_raises) (defScope st_law_raises) .none kV22 dc22 pm22 an22 cd22 ct22), sl22⟩)
    (c22 : PySem.W.codeIn K cd22 "_law_raises" = true)
    (k22 : PySem.W.keepIn K (.ref f22) = true)
    (a23 : PySem.W.nsIn K mainGlobals "_law_points" = some (some (.ref f23)))
    (l23 : K.lookup f23 = some ⟨oc23, od23, .func (PySem.W.fnOf "_law_points" "_law_points" (defArgs st_law_points) (defBody st_law_points) (defScope st_law_points) .none kV23 dc23 pm23 an23 cd23 ct23), sl23⟩)
    (c23 : PySem.W.codeIn K cd23 "_law_points" = true)
    (k23 : PySem.W.keepIn K (.ref f23) = true)
    (a24 : PySem.W.nsIn K mainGlobals "_law_multiplicities" = some (some (.ref f24)))
    (l24 : K.lookup f24 = some ⟨oc24, od24, .func (PySem.W.fnOf "_law_multiplicities" "_law_multiplicities" (defArgs st_law_multiplicities) (defBody st_law_multiplicities) (defScope st_law_multiplicities) .none kV24 dc24 pm24 an24 cd24 ct24), sl24⟩)
    (c24 : PySem.W.codeIn K cd24 "_law_multiplicities" = true)
    (k24 : PySem.W.keepIn K (.ref f24) = true)
    (a25 : PySem.W.nsIn K mainGlobals "_law_excess" = some (some (.ref f25)))
    (l25 : K.lookup f25 = some ⟨oc25, od25, .func (PySem.W.fnOf "_law_excess" "_law_excess" (defArgs st_law_excess) (defBody st_law_excess) (defScope st_law_excess) .none kV25 dc25 pm25 an25 cd25 ct25), sl25⟩)
    (c25 : PySem.W.codeIn K cd25 "_law_excess" = true)
    (k25 : PySem.W.keepIn K (.ref f25) = true)
    (a26 : PySem.W.nsIn K mainGlobals "_law_fits" = some (some (.ref f26)))
    (l26 : K.lookup f26 = some ⟨oc26, od26, .func (PySem.W.fnOf "_law_fits" "_law_fits" (defArgs st_law_fits) (defBody st_law_fits) (defScope st_law_fits) .none kV26 dc26 pm26 an26 cd26 ct26), sl26⟩)
    (c26 : PySem.W.codeIn K cd26 "_law_fits" = true)
    (k26 : PySem.W.keepIn K (.ref f26) = true)
    (a27 : PySem.W.nsIn K mainGlobals "_law_done" = some (some (.ref f27)))
    (l27 : K.lookup f27 = some ⟨oc27, od27, .func (PySem.W.fnOf "_law_done" "_law_done" (defArgs st_law_done) (defBody st_law_done) (defScope st_law_done) .none kV27 dc27 pm27 an27 cd27 ct27), sl27⟩)
    (c27 : PySem.W.codeIn K cd27 "_law_done" = true)
    (k27 : PySem.W.keepIn K (.ref f27) = true)
    (a28 : PySem.W.nsIn K mainGlobals "_law_between" = some (some (.ref f28)))
    (l28 : K.lookup f28 = some ⟨oc28, od28, .func (PySem.W.fnOf "_law_between" "_law_between" (defArgs st_law_between) (defBody st_law_between) (defScope st_law_between) .none kV28 dc28 pm28 an28 cd28 ct28), sl28⟩)
    (c28 : PySem.W.codeIn K cd28 "_law_between" = true)
    (k28 : PySem.W.keepIn K (.ref f28) = true)
    (a29 : PySem.W.nsIn K mainGlobals "_law_number" = some (some (.ref f29)))
    (l29 : K.lookup f29 = some ⟨oc29, od29, .func (PySem.W.fnOf "_law_number" "_law_number" (defArgs st_law_number) (defBody st_law_number) (defScope st_law_number) .none kV29 dc29 pm29 an29 cd29 ct29), sl29⟩)
    (c29 : PySem.W.codeIn K cd29 "_law_number" = true)
    (k29 : PySem.W.keepIn K (.ref f29) = true)
    (a30 : PySem.W.nsIn K mainGlobals "_law_drawn" = some (some (.ref f30)))
    (l30 : K.lookup f30 = some ⟨oc30, od30, .func (PySem.W.fnOf "_law_drawn" "_law_drawn" (defArgs st_law_drawn) (defBody st_law_drawn) (defScope st_law_drawn) .none kV30 dc30 pm30 an30 cd30 ct30), sl30⟩)
    (c30 : PySem.W.codeIn K cd30 "_law_drawn" = true)
    (k30 : PySem.W.keepIn K (.ref f30) = true)
    (a31 : PySem.W.nsIn K mainGlobals "_law_holds" = some (some (.ref f31)))
    (l31 : K.lookup f31 = some ⟨oc31, od31, .func (PySem.W.fnOf "_law_holds" "_law_holds" (defArgs st_law_holds) (defBody st_law_holds) (defScope st_law_holds) .none kV31 dc31 pm31 an31 cd31 ct31), sl31⟩)
    (c31 : PySem.W.codeIn K cd31 "_law_holds" = true)
    (k31 : PySem.W.keepIn K (.ref f31) = true)
    (a32 : PySem.W.nsIn K mainGlobals "_law_malformed_holds" = some (some (.ref f32)))
    (l32 : K.lookup f32 = some ⟨oc32, od32, .func (PySem.W.fnOf "_law_malformed_holds" "_law_malformed_holds" (defArgs st_law_malformed_holds) (defBody st_law_malformed_holds) (defScope st_law_malformed_holds) .none kV32 dc32 pm32 an32 cd32 ct32), sl32⟩)
    (c32 : PySem.W.codeIn K cd32 "_law_malformed_holds" = true)
    (k32 : PySem.W.keepIn K (.ref f32) = true)
    (a33 : PySem.W.nsIn K mainGlobals "law" = some (some (.ref f33)))
    (l33 : K.lookup f33 = some ⟨oc33, od33, .func (PySem.W.fnOf "law" "law" (defArgs stlaw) (defBody stlaw) (defScope stlaw) .none kV33 dc33 pm33 an33 cd33 ct33), sl33⟩)
    (c33 : PySem.W.codeIn K cd33 "law" = true)
    (k33 : PySem.W.keepIn K (.ref f33) = true)
    (aM : PySem.W.nsIn K mainGlobals "Malformed" = some (some (.ref CM)))
    (aR : PySem.W.nsIn K mainGlobals "Refused" = some (some (.ref CR)))
    (xM : PySem.W.excIn K CM [.type "ValueError", .type "Exception", .type "BaseException", .type "object"] "ValueError.__new__" = true)
    (xR : K.lookup CR = some (excClassObj nmR qR CR NR bsR [.ref CF, .type "ValueError", .type "Exception", .type "BaseException", .type "object"] true snR subR abR colR ddR mR0 mR1 mR2 mR3 mR5 "ValueError.__new__"))
    (kM : PySem.W.keepIn K (.ref CM) = true)
    (kR : PySem.W.keepIn K (.ref CR) = true)
    (bM : PySem.W.subIn K (.ref CM) (.type "BaseException") = some true)
    (bR : PySem.W.subIn K (.ref CR) (.type "BaseException") = some true)
    (tM : PySem.W.typeIn K (.ref CM) = some (.type "type"))
    (tR : PySem.W.typeIn K (.ref CR) = some (.type "type"))
    (iM : PySem.W.isClsIn K CM = true)
    (iR : PySem.W.isClsIn K CR = true)
    (sMM : PySem.W.subIn K (.ref CM) (.ref CM) = some true)
    (sMR : PySem.W.subIn K (.ref CM) (.ref CR) = some false)
    (sRM : PySem.W.subIn K (.ref CR) (.ref CM) = some false)
    (sRR : PySem.W.subIn K (.ref CR) (.ref CR) = some true)
    (gaR : PySem.W.findIn K (.ref CR) "__getattribute__" = some (some (.builtin "BaseException.__getattribute__")))
    (ggR : PySem.W.findIn K (.ref CR) "__getattr__" = some none)
    (hdR : PySem.W.hasDictIn K CR = true)
    (saR : PySem.W.findIn K (.ref CR) "__setattr__" = some (some (.builtin "object.__setattr__")))
    (nnR : PySem.W.findIn K (.ref CR) "reason" = some none)
    (inR : PySem.W.findIn K (.ref CR) "__init__" = some (some (.ref fR)))
    (tfnR : PySem.W.typeIn K (.ref fR) = some (.type "function"))
    (suR : PySem.W.ks_superIn K CR CR "__init__" = some (some (.builtin "ValueError.__init__")))
    (mroR : PySem.W.mroIn K CR (.ref CR) = some true)
    (sveR : PySem.W.subIn K (.ref CR) (.type "ValueError") = some true)
    (anyR : PySem.W.nsIn K cStatics "thirdparty.any" = some none)
    (supR : PySem.W.nsIn K mainGlobals "super" = some none)
    (lR : K.lookup fR = some ⟨ocR, odR, .func (PySem.W.ksFn "__init__" qn (PySem.RefX.rA ⟨8, 17, 8, 21⟩ ⟨8, 23, 8, 29⟩) (PySem.RefX.rB ⟨9, 8, 9, 13⟩ ⟨9, 8, 9, 15⟩ ⟨9, 8, 9, 24⟩ ⟨9, 25, 9, 31⟩ ⟨9, 8, 9, 32⟩ ⟨9, 8, 9, 32⟩ ⟨10, 8, 10, 12⟩ ⟨10, 8, 10, 19⟩ ⟨10, 22, 10, 28⟩ ⟨10, 8, 10, 28⟩) PySem.RefX.rS .none .none dcR pmR anR (.ref cda) ctR cc), oslR⟩)
    (cR : PySem.W.codeIn K (.ref cda) qn = true)
    (lcR : K.lookup cda = some ⟨cclR, cddR, .fields vsR, ccsR⟩)
    (vR : vsR[2]? = some (.str fileR tfR))
    (fiR : ((PySem.Challenge.pw_germroads_k22_whole_rows_of_values_unloa.main.file : Str) == fileR) = true)
    (lccR : K.lookup cc = some ⟨clR, cldR, .cell (some (.ref CR)), cslR⟩)
    : ∃ fd : FuncData, (∀ (s : Shared) (v : Value), BindsTo s fd ⟨[v], []⟩ [("script", v)]) ∧ ∀ base : Heap, K.In base → base.Ns mainGlobals mg → FnOk PySem.Challenge.pw_germroads_k22_whole_rows_of_values_unloa w K mg base (L2.CX PySem.Challenge.pw_germroads_k22_whole_rows_of_values_unloa w) 12 fa fd ["script"] (spLaw K 63) := by
  have e := hfa.symm.trans (PySem.W.mg_of X G a33)
  cases e
  have B : Bn mg := ⟨PySem.W.mg_none_of X G z_abs, PySem.W.mg_none_of X G z_all, PySem.W.mg_none_of X G z_bool, PySem.W.mg_none_of X G z_enumerate, PySem.W.mg_none_of X G z_int, PySem.W.mg_none_of X G z_isinstance, PySem.W.mg_none_of X G z_len, PySem.W.mg_none_of X G z_list, PySem.W.mg_none_of X G z_min, PySem.W.mg_none_of X G z_range, PySem.W.mg_none_of X G z_str, PySem.W.mg_none_of X G z_sum, PySem.W.mg_none_of X G z_tuple⟩
  have C : Cs ⟨K, mg⟩ := ⟨.of_int (PySem.W.mg_of X G y_MOST_POINTS), .of_int (PySem.W.mg_of X G y_MOST_WEIGHT)⟩
  have RT : PySem.RefX.RefTxt PySem.Challenge.pw_germroads_k22_whole_rows_of_values_unloa K mg "Refused" CR fR :=
    { gC := PySem.W.mg_of X G aR, cls := ⟨nmR, qR, NR, bsR, _, snR, subR, abR, colR, ddR, mR0, mR1, mR2, mR3, mR5, xR, by rfl⟩, sup := suR, sub := mroR, sVE := sveR, any := anyR, gS := PySem.W.mg_none_of X G supR, sa := saR, noN := nnR, iC := inR, tC := tfnR, kC := kR, exC := bR, tyC := tR, htop := by rfl,
      fn := ⟨_, _, _, _, _, _, _, _, _, _, _, _, _, _, _, _, _, _, _, _, _, _, lR, by rfl, cR, ⟨_, _, _, _, _, _, lcR, vR, fiR⟩, _, _, _, lccR⟩ }
  have T : Errs PySem.Challenge.pw_germroads_k22_whole_rows_of_values_unloa K mg CM CR fR := ⟨RT, PySem.W.mg_of X G aM, xM, kM, bM, tM, iM, iR, sMM, sMR, sRM, sRR, ⟨gaR, ggR, bR, hdR⟩⟩
  have F0 := fun_mk (st := stis_integer) l0 c0 k0
  have b0 := F0.binds (ps := ["value"]) fun _ _ _ _ _ _ us hl => match us, hl with | [_], _ => rfl
  have F1 := fun_mk (st := stis_item) l1 c1 k1
  have b1 := F1.binds (ps := ["points", "p", "own"]) fun _ _ _ _ _ _ us hl => match us, hl with | [_, _, _], _ => rfl
  have F2 := fun_mk (st := stis_points) l2 c2 k2
  have b2 := F2.binds (ps := ["value"]) fun _ _ _ _ _ _ us hl => match us, hl with | [_], _ => rfl
  have F3 := fun_mk (st := stcheck_points) l3 c3 k3
  have b3 := F3.binds (ps := ["points"]) fun _ _ _ _ _ _ us hl => match us, hl with | [_], _ => rfl
  have F4 := fun_mk (st := stis_weight_row) l4 c4 k4
  have b4 := F4.binds (ps := ["points", "value"]) fun _ _ _ _ _ _ us hl => match us, hl with | [_, _], _ => rfl
  have F5 := fun_mk (st := stcheck_weighted) l5 c5 k5
  have b5 := F5.binds (ps := ["points", "row"]) fun _ _ _ _ _ _ us hl => match us, hl with | [_, _], _ => rfl
  have F6 := fun_mk (st := stexcess_list) l6 c6 k6
  have b6 := F6.binds (ps := ["points", "row"]) fun _ _ _ _ _ _ us hl => match us, hl with | [_, _], _ => rfl
  have F7 := fun_mk (st := stmultiplicities_from) l7 c7 k7
  have b7 := F7.binds (ps := ["points", "v"]) fun _ _ _ _ _ _ us hl => match us, hl with | [_, _], _ => rfl
  have F8 := fun_mk (st := stexcesses_from) l8 c8 k8
  have b8 := F8.binds (ps := ["points", "v"]) fun _ _ _ _ _ _ us hl => match us, hl with | [_, _], _ => rfl
  have F9 := fun_mk (st := stown_meetings) l9 c9 k9
  have b9 := F9.binds (ps := ["points"]) fun _ _ _ _ _ _ us hl => match us, hl with | [_], _ => rfl
  have F10 := fun_mk (st := ststeps_from) l10 c10 k10
  have b10 := F10.binds (ps := ["points", "v"]) fun _ _ _ _ _ _ us hl => match us, hl with | [_, _], _ => rfl
  have F11 := fun_mk (st := stunloaded) l11 c11 k11
  have b11 := F11.binds (ps := ["points", "v"]) fun _ _ _ _ _ _ us hl => match us, hl with | [_, _], _ => rfl
  have F12 := fun_mk (st := stcodimension_of) l12 c12 k12
  have b12 := F12.binds (ps := ["points", "v"]) fun _ _ _ _ _ _ us hl => match us, hl with | [_, _], _ => rfl
  have F13 := fun_mk (st := stcheck_values) l13 c13 k13
  have b13 := F13.binds (ps := ["points", "v"]) fun _ _ _ _ _ _ us hl => match us, hl with | [_, _], _ => rfl
  have F14 := fun_mk (st := stideal_codimension) l14 c14 k14
  have b14 := F14.binds (ps := ["points", "v"]) fun _ _ _ _ _ _ us hl => match us, hl with | [_, _], _ => rfl
  have F15 := fun_mk (st := st_law_state) l15 c15 k15
  have b15 := F15.binds (ps := ["script"]) fun _ _ _ _ _ _ us hl => match us, hl with | [_], _ => rfl
  have F16 := fun_mk (st := st_law_take) l16 c16 k16
  have b16 := F16.binds (ps := ["state", "m"]) fun _ _ _ _ _ _ us hl => match us, hl with | [_, _], _ => rfl
  have F17 := fun_mk (st := st_law_same) l17 c17 k17
  have b17 := F17.binds (ps := ["value", "due"]) fun _ _ _ _ _ _ us hl => match us, hl with | [_, _], _ => rfl
  have F18 := fun_mk (st := st_law_told) l18 c18 k18
  have b18 := F18.binds (ps := ["f", "given"]) fun _ _ _ _ _ _ us hl => match us, hl with | [_, _], _ => rfl
  have F19 := fun_mk (st := st_law_is_told) l19 c19 k19
  have b19 := F19.binds (ps := ["pair", "due"]) fun _ _ _ _ _ _ us hl => match us, hl with | [_, _], _ => rfl
  have F20 := fun_mk (st := st_law_is_raised) l20 c20 k20
  have b20 := F20.binds (ps := ["pair", "reason"]) fun _ _ _ _ _ _ us hl => match us, hl with | [_, _], _ => rfl
  have F21 := fun_mk (st := st_law_tells) l21 c21 k21
  have b21 := F21.binds (ps := ["f", "given", "due"]) fun _ _ _ _ _ _ us hl => match us, hl with | [_, _, _], _ => rfl
  have F22 := fun_mk (st := st_law_raises) l22 c22 k22
  have b22 := F22.binds (ps := ["f", "given", "reason"]) fun _ _ _ _ _ _ us hl => match us, hl with | [_, _, _], _ => rfl
  have F23 := fun_mk (st := st_law_points) l23 c23 k23
  have b23 := F23.binds (ps := ["state", "many"]) fun _ _ _ _ _ _ us hl => match us, hl with | [_, _], _ => rfl
  have F24 := fun_mk (st := st_law_multiplicities) l24 c24 k24
  have b24 := F24.binds (ps := ["points", "v"]) fun _ _ _ _ _ _ us hl => match us, hl with | [_, _], _ => rfl
  have F25 := fun_mk (st := st_law_excess) l25 c25 k25
  have b25 := F25.binds (ps := ["points", "m"]) fun _ _ _ _ _ _ us hl => match us, hl with | [_, _], _ => rfl
  have F26 := fun_mk (st := st_law_fits) l26 c26 k26
  have b26 := F26.binds (ps := ["points", "v"]) fun _ _ _ _ _ _ us hl => match us, hl with | [_, _], _ => rfl
  have F27 := fun_mk (st := st_law_done) l27 c27 k27
  have b27 := F27.binds (ps := ["state", "points", "v"]) fun _ _ _ _ _ _ us hl => match us, hl with | [_, _, _], _ => rfl
  have F28 := fun_mk (st := st_law_between) l28 c28 k28
  have b28 := F28.binds (ps := ["v", "w"]) fun _ _ _ _ _ _ us hl => match us, hl with | [_, _], _ => rfl
  have F29 := fun_mk (st := st_law_number) l29 c29 k29
  have b29 := F29.binds (ps := ["points", "w"]) fun _ _ _ _ _ _ us hl => match us, hl with | [_, _], _ => rfl
  have F30 := fun_mk (st := st_law_drawn) l30 c30 k30
  have b30 := F30.binds (ps := ["state", "many", "low", "high"]) fun _ _ _ _ _ _ us hl => match us, hl with | [_, _, _, _], _ => rfl
  have F31 := fun_mk (st := st_law_holds) l31 c31 k31
  have b31 := F31.binds (ps := ["state", "points", "v"]) fun _ _ _ _ _ _ us hl => match us, hl with | [_, _, _], _ => rfl
  have F32 := fun_mk (st := st_law_malformed_holds) l32 c32 k32
  have b32 := F32.binds (ps := ["state", "points"]) fun _ _ _ _ _ _ us hl => match us, hl with | [_, _], _ => rfl
  have F33 := fun_mk (st := stlaw) l33 c33 k33
  have b33 := F33.binds (ps := ["script"]) fun _ _ _ _ _ _ us hl => match us, hl with | [_], _ => rfl
  refine ⟨PySem.W.fnOf "law" "law" (defArgs stlaw) (defBody stlaw) (defScope stlaw) .none kV33 dc33 pm33 an33 cd33 ct33, fun s v => .of_eq rfl, fun base _ _ => ?_⟩
  have cis_integer : CalD PySem.Challenge.pw_germroads_k22_whole_rows_of_values_unloa w K mg base 1 "is_integer" Fis_integer := ⟨f0, _, _, PySem.W.mg_of X G a0, k0, b0, okis_integer F0 B⟩
  have cis_item : CalD PySem.Challenge.pw_germroads_k22_whole_rows_of_values_unloa w K mg base 2 "is_item" Fis_item := ⟨f1, _, _, PySem.W.mg_of X G a1, k1, b1, okis_item F1 B cis_integer⟩
  have cis_points : CalD PySem.Challenge.pw_germroads_k22_whole_rows_of_values_unloa w K mg base 3 "is_points" Fis_points := ⟨f2, _, _, PySem.W.mg_of X G a2, k2, b2, okis_points F2 B C cis_item⟩
  have ccheck_points : CalD PySem.Challenge.pw_germroads_k22_whole_rows_of_values_unloa w K mg base 4 "check_points" Fcheck_points := ⟨f3, _, _, PySem.W.mg_of X G a3, k3, b3, okcheck_points F3 T cis_points⟩
  have cis_weight_row : CalD PySem.Challenge.pw_germroads_k22_whole_rows_of_values_unloa w K mg base 2 "is_weight_row" Fis_weight_row := ⟨f4, _, _, PySem.W.mg_of X G a4, k4, b4, okis_weight_row F4 B C cis_integer⟩
  have ccheck_weighted : CalD PySem.Challenge.pw_germroads_k22_whole_rows_of_values_unloa w K mg base 5 "check_weighted" Fcheck_weighted := ⟨f5, _, _, PySem.W.mg_of X G a5, k5, b5, okcheck_weighted F5 T ccheck_points cis_weight_row⟩
  have cexcess_list : CalD PySem.Challenge.pw_germroads_k22_whole_rows_of_values_unloa w K mg base 1 "excess_list" Fexcess_list := ⟨f6, _, _, PySem.W.mg_of X G a6, k6, b6, okexcess_list F6 B⟩
  have cmultiplicities_from : CalD PySem.Challenge.pw_germroads_k22_whole_rows_of_values_unloa w K mg base 1 "multiplicities_from" Fmultiplicities_from := ⟨f7, _, _, PySem.W.mg_of X G a7, k7, b7, okmultiplicities_from F7 B⟩
  have cexcesses_from : CalD PySem.Challenge.pw_germroads_k22_whole_rows_of_values_unloa w K mg base 2 "excesses_from" Fexcesses_from := ⟨f8, _, _, PySem.W.mg_of X G a8, k8, b8, okexcesses_from F8 cexcess_list cmultiplicities_from⟩
  have cown_meetings : CalD PySem.Challenge.pw_germroads_k22_whole_rows_of_values_unloa w K mg base 1 "own_meetings" Fown_meetings := ⟨f9, _, _, PySem.W.mg_of X G a9, k9, b9, okown_meetings F9 B⟩
  have csteps_from : CalD PySem.Challenge.pw_germroads_k22_whole_rows_of_values_unloa w K mg base 3 "steps_from" Fsteps_from := ⟨f10, _, _, PySem.W.mg_of X G a10, k10, b10, oksteps_from F10 B cexcesses_from cown_meetings⟩
  have cunloaded : CalD PySem.Challenge.pw_germroads_k22_whole_rows_of_values_unloa w K mg base 6 "unloaded" Funloaded := ⟨f11, _, _, PySem.W.mg_of X G a11, k11, b11, okunloaded F11 B ccheck_weighted csteps_from⟩
  have ccodimension_of : CalD PySem.Challenge.pw_germroads_k22_whole_rows_of_values_unloa w K mg base 2 "codimension_of" Fcodimension_of := ⟨f12, _, _, PySem.W.mg_of X G a12, k12, b12, okcodimension_of F12 B cmultiplicities_from⟩
  have ccheck_values : CalD PySem.Challenge.pw_germroads_k22_whole_rows_of_values_unloa w K mg base 6 "check_values" Fcheck_values := ⟨f13, _, _, PySem.W.mg_of X G a13, k13, b13, okcheck_values F13 B T ccheck_weighted⟩
  have cideal_codimension : CalD PySem.Challenge.pw_germroads_k22_whole_rows_of_values_unloa w K mg base 7 "ideal_codimension" Fideal_codimension := ⟨f14, _, _, PySem.W.mg_of X G a14, k14, b14, okideal_codimension F14 ccheck_values ccodimension_of csteps_from⟩
  have c_law_state : CalD PySem.Challenge.pw_germroads_k22_whole_rows_of_values_unloa w K mg base 1 "_law_state" F_law_state := ⟨f15, _, _, PySem.W.mg_of X G a15, k15, b15, ok_law_state F15 B⟩
  have c_law_take : CalD PySem.Challenge.pw_germroads_k22_whole_rows_of_values_unloa w K mg base 1 "_law_take" F_law_take := ⟨f16, _, _, PySem.W.mg_of X G a16, k16, b16, ok_law_take F16 B⟩
  have c_law_same : CalD PySem.Challenge.pw_germroads_k22_whole_rows_of_values_unloa w K mg base 8 "_law_same" (F_law_same 8) := ⟨f17, _, _, PySem.W.mg_of X G a17, k17, b17, ok_law_same F17 B (PySem.W.mg_of X G a17) k17 b17 8⟩
  have c_law_told : CalD PySem.Challenge.pw_germroads_k22_whole_rows_of_values_unloa w K mg base 8 "_law_told" F_law_told := ⟨f18, _, _, PySem.W.mg_of X G a18, k18, b18, ok_law_told F18 B T cideal_codimension cunloaded⟩
  have c_law_is_told : CalD PySem.Challenge.pw_germroads_k22_whole_rows_of_values_unloa w K mg base 9 "_law_is_told" F_law_is_told := ⟨f19, _, _, PySem.W.mg_of X G a19, k19, b19, ok_law_is_told F19 c_law_same⟩
  have c_law_is_raised : CalD PySem.Challenge.pw_germroads_k22_whole_rows_of_values_unloa w K mg base 9 "_law_is_raised" F_law_is_raised := ⟨f20, _, _, PySem.W.mg_of X G a20, k20, b20, ok_law_is_raised F20 c_law_same⟩
  have c_law_tells : CalD PySem.Challenge.pw_germroads_k22_whole_rows_of_values_unloa w K mg base 10 "_law_tells" F_law_tells := ⟨f21, _, _, PySem.W.mg_of X G a21, k21, b21, ok_law_tells F21 c_law_is_told c_law_told⟩
  have c_law_raises : CalD PySem.Challenge.pw_germroads_k22_whole_rows_of_values_unloa w K mg base 10 "_law_raises" F_law_raises := ⟨f22, _, _, PySem.W.mg_of X G a22, k22, b22, ok_law_raises F22 c_law_is_raised c_law_told⟩
  have c_law_points : CalD PySem.Challenge.pw_germroads_k22_whole_rows_of_values_unloa w K mg base 2 "_law_points" F_law_points := ⟨f23, _, _, PySem.W.mg_of X G a23, k23, b23, ok_law_points F23 B c_law_take⟩
  have c_law_multiplicities : CalD PySem.Challenge.pw_germroads_k22_whole_rows_of_values_unloa w K mg base 1 "_law_multiplicities" F_law_multiplicities := ⟨f24, _, _, PySem.W.mg_of X G a24, k24, b24, ok_law_multiplicities F24 B⟩
  have c_law_excess : CalD PySem.Challenge.pw_germroads_k22_whole_rows_of_values_unloa w K mg base 1 "_law_excess" F_law_excess := ⟨f25, _, _, PySem.W.mg_of X G a25, k25, b25, ok_law_excess F25 B⟩
  have c_law_fits : CalD PySem.Challenge.pw_germroads_k22_whole_rows_of_values_unloa w K mg base 2 "_law_fits" F_law_fits := ⟨f26, _, _, PySem.W.mg_of X G a26, k26, b26, ok_law_fits F26 B c_law_excess c_law_multiplicities⟩
  have c_law_done : CalD PySem.Challenge.pw_germroads_k22_whole_rows_of_values_unloa w K mg base 2 "_law_done" F_law_done := ⟨f27, _, _, PySem.W.mg_of X G a27, k27, b27, ok_law_done F27 B c_law_excess c_law_multiplicities c_law_take⟩
  have c_law_between : CalD PySem.Challenge.pw_germroads_k22_whole_rows_of_values_unloa w K mg base 1 "_law_between" F_law_between := ⟨f28, _, _, PySem.W.mg_of X G a28, k28, b28, ok_law_between F28 B⟩
  have c_law_number : CalD PySem.Challenge.pw_germroads_k22_whole_rows_of_values_unloa w K mg base 2 "_law_number" F_law_number := ⟨f29, _, _, PySem.W.mg_of X G a29, k29, b29, ok_law_number F29 B c_law_multiplicities⟩
  have c_law_drawn : CalD PySem.Challenge.pw_germroads_k22_whole_rows_of_values_unloa w K mg base 2 "_law_drawn" F_law_drawn := ⟨f30, _, _, PySem.W.mg_of X G a30, k30, b30, ok_law_drawn F30 B c_law_take⟩
  have c_law_holds : CalD PySem.Challenge.pw_germroads_k22_whole_rows_of_values_unloa w K mg base 11 "_law_holds" F_law_holds := ⟨f31, _, _, PySem.W.mg_of X G a31, k31, b31, ok_law_holds F31 B c_law_between c_law_done c_law_fits c_law_number c_law_raises c_law_tells cideal_codimension cunloaded⟩
  have c_law_malformed_holds : CalD PySem.Challenge.pw_germroads_k22_whole_rows_of_values_unloa w K mg base 11 "_law_malformed_holds" F_law_malformed_holds := ⟨f32, _, _, PySem.W.mg_of X G a32, k32, b32, ok_law_malformed_holds F32 B c_law_drawn c_law_raises cideal_codimension cunloaded⟩
  have oL : FnOk PySem.Challenge.pw_germroads_k22_whole_rows_of_values_unloa w K mg base (L2.CX PySem.Challenge.pw_germroads_k22_whole_rows_of_values_unloa w) 12 _ _ _ _ := oklaw F33 B c_law_done c_law_drawn c_law_holds c_law_malformed_holds c_law_points c_law_state c_law_take c_law_tells cunloaded
  exact oL.imp (law_sp law_true)
end Mp
open PySem PySem.W PyProof.Rows
set_option maxHeartbeats 0 in
theorem PySem.Challenge.cw_germroads_k22_whole_rows_of_values_unloa_holds : PySem.Challenge.rw_germroads_k22_whole_rows_of_values_unloa.Holds := by
  w_on; o_law; k_head; (case hw => w_witness2)
  k_fill
  refine L2.walk_of (l := PySem.Challenge.rw_germroads_k22_whole_rows_of_values_unloa) (n := 63) (k := 12) (x := "script") (CX := fun w => L2.CX PySem.Challenge.pw_germroads_k22_whole_rows_of_values_unloa w) (sp := fun w => Mp.spLaw _ 63) rfl (by decide) rfl ⟨rfl, by decide, by decide⟩ (fun w h Y => PySem.W.kIn_of Y) ?F (fun _ _ a ns hl hO hS => ⟨a, ns, rfl, hO, hS, hl, fun _ => rfl⟩) (fun _ _ _ _ _ h => Mp.cx_no _ _ _ _ h)
  case F =>
    intro w mg fa h KX G hmg
    refine' Mp.all_mk KX G hmg ?z_abs ?z_all ?z_bool ?z_enumerate ?z_int ?z_isinstance ?z_len ?z_list ?z_min ?z_range ?z_str ?z_sum ?z_tuple ?y_MOST_POINTS ?y_MOST_WEIGHT ?a0 ?l0 ?c0 ?k0 ?a1 ?l1 ?c1 ?k1 ?a2 ?l2 ?c2 ?k2 ?a3 ?l3 ?c3 ?k3 ?a4 ?l4 ?c4 ?k4 ?a5 ?l5 ?c5 ?k5 ?a6 ?l6 ?c6 ?k6 ?a7 ?l7 ?c7 ?k7 ?a8 ?l8 ?c8 ?k8 ?a9 ?l9 ?c9 ?k9 ?a10 ?l10 ?c10 ?k10 ?a11 ?l11 ?c11 ?k11 ?a12 ?l12 ?c12 ?k12 ?a13 ?l13 ?c13 ?k13 ?a14 ?l14 ?c14 ?k14 ?a15 ?l15 ?c15 ?k15 ?a16 ?l16 ?c16 ?k16 ?a17 ?l17 ?c17 ?k17 ?a18 ?l18 ?c18 ?k18 ?a19 ?l19 ?c19 ?k19 ?a20 ?l20 ?c20 ?k20 ?a21 ?l21 ?c21 ?k21 ?a22 ?l22 ?c22 ?k22 ?a23 ?l23 ?c23 ?k23 ?a24 ?l24 ?c24 ?k24 ?a25 ?l25 ?c25 ?k25 ?a26 ?l26 ?c26 ?k26 ?a27 ?l27 ?c27 ?k27 ?a28 ?l28 ?c28 ?k28 ?a29 ?l29 ?c29 ?k29 ?a30 ?l30 ?c30 ?k30 ?a31 ?l31 ?c31 ?k31 ?a32 ?l32 ?c32 ?k32 ?a33 ?l33 ?c33 ?k33 ?aM ?aR ?xM ?xR ?kM ?kR ?bM ?bR ?tM ?tR ?iM ?iR ?sMM ?sMR ?sRM ?sRR ?gaR ?ggR ?hdR ?saR ?nnR ?inR ?tfnR ?suR ?mroR ?sveR ?anyR ?supR ?lR ?cR ?lcR ?vR ?fiR ?lccR
    (case z_abs => k_is)
    (case z_all => k_is)
    (case z_bool => k_is)
    (case z_enumerate => k_is)
    (case z_int => k_is)
    (case z_isinstance => k_is)
    (case z_len => k_is)
    (case z_list => k_is)
    (case z_min => k_is)
    (case z_range => k_is)
    (case z_str => k_is)
    (case z_sum => k_is)
    (case z_tuple => k_is)
    (case y_MOST_POINTS => k_is)
    (case y_MOST_WEIGHT => k_is)
    (case a0 => k_is)
    (case l0 => k_is)
    (case c0 => k_is)
    (case k0 => k_is)
    (case a1 => k_is)
    (case l1 => k_is)
    (case c1 => k_is)
    (case k1 => k_is)
    (case a2 => k_is)
    (case l2 => k_is)
    (case c2 => k_is)
    (case k2 => k_is)
    (case a3 => k_is)
    (case l3 => k_is)
    (case c3 => k_is)
    (case k3 => k_is)
    (case a4 => k_is)
    (case l4 => k_is)
    (case c4 => k_is)
    (case k4 => k_is)
    (case a5 => k_is)
    (case l5 => k_is)
    (case c5 => k_is)
    (case k5 => k_is)
    (case a6 => k_is)
    (case l6 => k_is)
    (case c6 => k_is)
    (case k6 => k_is)
    (case a7 => k_is)
    (case l7 => k_is)
    (case c7 => k_is)
    (case k7 => k_is)
    (case a8 => k_is)
    (case l8 => k_is)
    (case c8 => k_is)
    (case k8 => k_is)
    (case a9 => k_is)
    (case l9 => k_is)
    (case c9 => k_is)
    (case k9 => k_is)
    (case a10 => k_is)
    (case l10 => k_is)
    (case c10 => k_is)
    (case k10 => k_is)
    (case a11 => k_is)
    (case l11 => k_is)
    (case c11 => k_is)
    (case k11 => k_is)
    (case a12 => k_is)
    (case l12 => k_is)
    (case c12 => k_is)
    (case k12 => k_is)
    (case a13 => k_is)
    (case l13 => k_is)
    (case c13 => k_is)
    (case k13 => k_is)
    (case a14 => k_is)
    (case l14 => k_is)
    (case c14 => k_is)
    (case k14 => k_is)
    (case a15 => k_is)
    (case l15 => k_is)
    (case c15 => k_is)
    (case k15 => k_is)
    (case a16 => k_is)
    (case l16 => k_is)
    (case c16 => k_is)
    (case k16 => k_is)
    (case a17 => k_is)
    (case l17 => k_is)
    (case c17 => k_is)
    (case k17 => k_is)
    (case a18 => k_is)
    (case l18 => k_is)
    (case c18 => k_is)
    (case k18 => k_is)
    (case a19 => k_is)
    (case l19 => k_is)
    (case c19 => k_is)
    (case k19 => k_is)
    (case a20 => k_is)
    (case l20 => k_is)
    (case c20 => k_is)
    (case k20 => k_is)
    (case a21 => k_is)
    (case l21 => k_is)
    (case c21 => k_is)
    (case k21 => k_is)
    (case a22 => k_is)
    (case l22 => k_is)
    (case c22 => k_is)
    (case k22 => k_is)
    (case a23 => k_is)
    (case l23 => k_is)
    (case c23 => k_is)
    (case k23 => k_is)
    (case a24 => k_is)
    (case l24 => k_is)
    (case c24 => k_is)
    (case k24 => k_is)
    (case a25 => k_is)
    (case l25 => k_is)
    (case c25 => k_is)
    (case k25 => k_is)
    (case a26 => k_is)
    (case l26 => k_is)
    (case c26 => k_is)
    (case k26 => k_is)
    (case a27 => k_is)
    (case l27 => k_is)
    (case c27 => k_is)
    (case k27 => k_is)
    (case a28 => k_is)
    (case l28 => k_is)
    (case c28 => k_is)
    (case k28 => k_is)
    (case a29 => k_is)
    (case l29 => k_is)
    (case c29 => k_is)
    (case k29 => k_is)
    (case a30 => k_is)
    (case l30 => k_is)
    (case c30 => k_is)
    (case k30 => k_is)
    (case a31 => k_is)
    (case l31 => k_is)
    (case c31 => k_is)
    (case k31 => k_is)
    (case a32 => k_is)
    (case l32 => k_is)
    (case c32 => k_is)
    (case k32 => k_is)
    (case a33 => k_is)
    (case l33 => k_is)
    (case c33 => k_is)
    (case k33 => k_is)
    (case aM => k_is)
    (case aR => k_is)
    (case xM => k_exc)
    (case xR => k_is)
    (case kM => k_is)
    (case kR => k_is)
    (case bM => k_is)
    (case bR => k_is)
    (case tM => k_is)
    (case tR => k_is)
    (case iM => k_is)
    (case iR => k_is)
    (case sMM => first | rfl | k_is)
    (case sMR => first | rfl | k_is)
    (case sRM => first | rfl | k_is)
    (case sRR => first | rfl | k_is)
    (case gaR => k_is)
    (case ggR => k_is)
    (case hdR => k_is)
    (case saR => k_is)
    (case nnR => k_is)
    (case inR => k_is)
    (case tfnR => k_is)
    (case suR => ks_is)
    (case mroR => k_is)
    (case sveR => k_is)
    (case anyR => k_is)
    (case supR => k_is)
    (case lR => k_is)
    (case cR => k_is)
    (case lcR => k_is)
    (case vR => rfl)
    (case fiR => first | rfl | decide +kernel)
    (case lccR => k_is)
