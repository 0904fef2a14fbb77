import PyProof.Rows.All
import Wide.All
import OpenK.AllK
import Wide.FinOn
import HandS.ForMost
import HandS.ForExc
import HandS.IsInst
import HandS.Conv
import HandS.SortInts
import HandS.CallSlots
import HandS.Wide
import HandS.TupAny
import HandS.TupMul
import HandS.Deep
import HandS.Codes
import HandS.Walk
import HandS.Zip
import HandS.Style
import HandS.Exc
import HandS.ExcOwn
import HandS.ExcField
import KE.KExcSuper
import HandS.TryMany
import HandS.Words
import HandS.WordsExc
import HandS.Ends
import HandS.RaiseMore
import KE.KRevSl
import PyProof.Draws
import PyProof.EnumMake
import PyProof.WalksMore
import KE.SortData
import HandS.Dict
import KE.DataMinMax
import HandS.SetFor
import HandS.Strs
import HandS.TupSets
import HandS.Keys
import KE.RegKSuper
import PySem.Challenge.RW_germroads_k01_whole_lots_of_classes
set_option Elab.async false
set_option linter.all false
set_option maxRecDepth 100000
set_option maxHeartbeats 4000000
namespace Mp
open PySem L2

/-! ## data and values -/
inductive D where
  | non | bl (b : Bool) | int (i : Int) | str (x : Str) | tup (xs : List D) | lst (xs : List D) | fn (x : Str)
  deriving Inhabited

mutual
def D.py : D → PyData
  | .non => .none
  | .bl b => .bool b
  | .int i => .int i
  | .str x => .str x
  | .tup xs => .tuple (D.pys xs)
  | .lst xs => .list (D.pys xs)
  | .fn _ => .none
def D.pys : List D → List PyData
  | [] => []
  | x :: r => x.py :: D.pys r
end
mutual
/-- no def within -/
def D.flat : D → Bool
  | .tup xs => D.flats xs
  | .lst xs => D.flats xs
  | .fn _ => false
  | _ => true
def D.flats : List D → Bool
  | [] => true
  | x :: r => x.flat && D.flats r
end
mutual
def D.beq : D → D → Bool
  | .non, .non => true
  | .bl a, .bl b => a == b
  | .int a, .int b => a == b
  | .str a, .str b => a == b
  | .tup a, .tup b => D.beqs a b
  | .lst a, .lst b => D.beqs a b
  | .fn a, .fn b => a == b
  | _, _ => false
def D.beqs : List D → List D → Bool
  | [], [] => true
  | x :: r, y :: s => D.beq x y && D.beqs r s
  | _, _ => false
end
mutual
theorem D.beq_eq : ∀ {a b : D}, D.beq a b = true → a = b
  | .non, b, h => by cases b <;> simp_all [D.beq]
  | .bl _, b, h => by cases b <;> simp_all [D.beq]
  | .int _, b, h => by cases b <;> simp_all [D.beq]
  | .str _, b, h => by cases b <;> simp_all [D.beq]
  | .fn _, b, h => by cases b <;> simp_all [D.beq]
  | .tup xs, b, h => by
    cases b <;> simp only [D.beq, Bool.false_eq_true] at h
    rw [D.beqs_eq h]
  | .lst xs, b, h => by
    cases b <;> simp only [D.beq, Bool.false_eq_true] at h
    rw [D.beqs_eq h]
theorem D.beqs_eq : ∀ {a b : List D}, D.beqs a b = true → a = b
  | [], [], _ => rfl
  | [], _ :: _, h => by simp [D.beqs] at h
  | _ :: _, [], h => by simp [D.beqs] at h
  | x :: r, y :: s, h => by
    simp only [D.beqs, Bool.and_eq_true] at h
    rw [D.beq_eq h.1, D.beqs_eq h.2]
end
mutual
theorem D.beq_refl : ∀ a : D, D.beq a a = true
  | .non => rfl
  | .bl _ => by simp [D.beq]
  | .int _ => by simp [D.beq]
  | .str _ => by simp [D.beq]
  | .fn _ => by simp [D.beq]
  | .tup xs => by simp only [D.beq]; exact D.beqs_refl xs
  | .lst xs => by simp only [D.beq]; exact D.beqs_refl xs
theorem D.beqs_refl : ∀ a : List D, D.beqs a a = true
  | [] => rfl
  | x :: r => by simp only [D.beqs, D.beq_refl x, D.beqs_refl r, Bool.and_self]
end
instance : DecidableEq D := fun a b => if h : D.beq a b = true then isTrue (D.beq_eq h) else isFalse (fun e => h (e ▸ D.beq_refl a))

/-- what a name holds, what an expression gives: a datum; the mutable list with the number i; a list that was just made; the script -/
inductive AV where
  | d (x : D) | cell (i : Nat) | fr (xs : List D) | scr (ns : List Int)
  deriving Inhabited, DecidableEq
/-- what a cell holds -/
inductive MC where
  | l (xs : List D)
  /-- a dict whose keys are tuples of ints; one whose keys are ints -/
  | t (kvs : List (List Int × D)) | k (kvs : List (Int × D))
  deriving Inhabited, DecidableEq
abbrev Mem := List (Option MC)
abbrev Env := List (Option AV)

/-! ## the relation to the abstract heap -/
/-- the written part, the module's names -/
structure Gm where
  K : PySem.W.Frag
  mg : Str → Option Value

def KLst (K : PySem.W.Frag) (a : Addr) (xs : List V) : Prop :=
  ∃ (o : Obj) (its : Array Value) (n : Nat), K.lookup a = some o ∧ o.cls = .type "list" ∧ o.dict = none ∧ o.data = .seq its n ∧ its.size ≤ sizeLine ∧ Vals xs its.toList
def KTup (K : PySem.W.Frag) (a : Addr) (xs : List V) : Prop :=
  ∃ (o : Obj) (its : Array Value) (n : Nat), K.lookup a = some o ∧ o.cls = .type "tuple" ∧ o.data = .seq its n ∧ its.size ≤ sizeLine ∧ Vals xs its.toList
/-- whether module constants may be tuples (then no dict has tuples as keys) -/
def ktOn : Bool := true
/-- a tuple; a list that no more changes: W are the addresses that may be written -/
def LstAt (W : Addr → Prop) (H : Hp) (a : Addr) (xs : List V) : Prop := H a = some (.lst xs) ∧ ¬ W a
def TupAt (G : Gm) (W : Addr → Prop) (H : Hp) (a : Addr) (xs : List V) : Prop := (H a = some (.tup xs) ∧ ¬ W a) ∨ (ktOn = true ∧ KTup G.K a xs)
/-- a list that is read alone: the script -/
def ScrAt (G : Gm) (W : Addr → Prop) (H : Hp) (a : Addr) (xs : List V) : Prop := (∃ o, H a = some (.frz o (.lst xs)) ∧ ¬ W a) ∨ KLst G.K a xs
theorem LstAt.sq {K : PySem.W.Frag} {W : Addr → Prop} {H : Hp} {a : Addr} {xs : List V} (h : LstAt W H a xs) : SqL K H a xs := .of h.1
theorem TupAt.sq {G : Gm} {W : Addr → Prop} {H : Hp} {a : Addr} {xs : List V} (h : TupAt G W H a xs) : SqT G.K H a xs := h.elim (fun h => .of h.1) fun h => .inr h.2
theorem ScrAt.sq {G : Gm} {W : Addr → Prop} {H : Hp} {a : Addr} {xs : List V} (h : ScrAt G W H a xs) : SqL G.K H a xs := by
  rcases h with ⟨o, h, _⟩ | h
  · exact .inl (.inr ⟨o, h⟩)
  · exact .inr h

mutual
inductive RD (G : Gm) (W : Addr → Prop) (H : Hp) : D → V → Prop
  | non : RD G W H .non .non
  | bl (b : Bool) : RD G W H (.bl b) (.bl b)
  | int (i : Int) : RD G W H (.int i) (.int i)
  | str (x : Str) : RD G W H (.str x) (.str x)
  | tup {a : Addr} {vs : List V} {xs : List D} : TupAt G W H a vs → RDs G W H xs vs → RD G W H (.tup xs) (.ref a)
  | lst {a : Addr} {vs : List V} {xs : List D} : LstAt W H a vs → RDs G W H xs vs → RD G W H (.lst xs) (.ref a)
  | fn {x : Str} {f : Addr} : G.mg x = some (.ref f) → RD G W H (.fn x) (.ref f)
inductive RDs (G : Gm) (W : Addr → Prop) (H : Hp) : List D → List V → Prop
  | nil : RDs G W H [] []
  | cons {x : D} {xs : List D} {v : V} {vs : List V} : RD G W H x v → RDs G W H xs vs → RDs G W H (x :: xs) (v :: vs)
end

/-- from one heap to a later one -/
structure Ext (W : Addr → Prop) (H : Hp) (W' : Addr → Prop) (H' : Hp) : Prop where
  keep : ∀ a o, H a = some o → ¬ W a → H' a = some o ∧ ¬ W' a
  live : ∀ a, H a ≠ none → H' a ≠ none
theorem Ext.refl (W : Addr → Prop) (H : Hp) : Ext W H W H := ⟨fun _ _ h n => ⟨h, n⟩, fun _ h => h⟩
theorem Ext.trans {W W1 W2 : Addr → Prop} {H H1 H2 : Hp} (a : Ext W H W1 H1) (b : Ext W1 H1 W2 H2) : Ext W H W2 H2 :=
  ⟨fun c o h n => let ⟨h1, n1⟩ := a.keep c o h n; b.keep c o h1 n1, fun c h => b.live c (a.live c h)⟩
theorem Ext.fresh {W W' : Addr → Prop} {H H' : Hp} (a : Ext W H W' H') {p : Addr} (h : H' p = none) : H p = none := by
  cases e : H p with
  | none => rfl
  | some o => exact absurd h (a.live p (by rw [e]; simp))
section
variable {G : Gm} {W W' : Addr → Prop} {H H' : Hp}
theorem LstAt.ext {a : Addr} {xs : List V} (h : LstAt W H a xs) (x : Ext W H W' H') : LstAt W' H' a xs := x.keep a _ h.1 h.2
theorem TupAt.ext {a : Addr} {xs : List V} (h : TupAt G W H a xs) (x : Ext W H W' H') : TupAt G W' H' a xs := h.imp (fun h => x.keep a _ h.1 h.2) id
theorem ScrAt.ext {a : Addr} {xs : List V} (h : ScrAt G W H a xs) (x : Ext W H W' H') : ScrAt G W' H' a xs := h.imp (fun ⟨o, h, n⟩ => ⟨o, x.keep a _ h n⟩) id
mutual
theorem RD.ext (x : Ext W H W' H') : ∀ {d : D} {v : V}, RD G W H d v → RD G W' H' d v
  | .non, _, h => by cases h; exact .non
  | .bl _, _, h => by cases h; exact .bl _
  | .int _, _, h => by cases h; exact .int _
  | .str _, _, h => by cases h; exact .str _
  | .tup _, _, h => by cases h with | tup h1 h2 => exact .tup (h1.ext x) (RDs.ext x h2)
  | .lst _, _, h => by cases h with | lst h1 h2 => exact .lst (h1.ext x) (RDs.ext x h2)
  | .fn _, _, h => by cases h with | fn h1 => exact .fn h1
theorem RDs.ext (x : Ext W H W' H') : ∀ {d : List D} {v : List V}, RDs G W H d v → RDs G W' H' d v
  | [], _, h => by cases h; exact .nil
  | _ :: _, _, h => by cases h with | cons h1 h2 => exact .cons (RD.ext x h1) (RDs.ext x h2)
end
/-- fewer addresses may be written -/
theorem Ext.less (h : ∀ a, W' a → W a) : Ext W H W' H := ⟨fun _ _ e n => ⟨e, fun z => n (h _ z)⟩, fun _ h => h⟩
theorem RD.less {d : D} {v : V} (r : RD G W H d v) (h : ∀ a, W' a → W a) : RD G W' H d v := r.ext (Ext.less h)
theorem RDs.less {d : List D} {v : List V} (r : RDs G W H d v) (h : ∀ a, W' a → W a) : RDs G W' H d v := r.ext (Ext.less h)
theorem RDs.length : ∀ {d : List D} {v : List V}, RDs G W H d v → d.length = v.length
  | [], _, h => by cases h; rfl
  | _ :: _, _, h => by cases h with | cons h1 h2 => simp [RDs.length h2]
theorem RDs.get : ∀ {d : List D} {v : List V} {i : Nat} {x : D}, RDs G W H d v → d[i]? = some x → ∃ y, v[i]? = some y ∧ RD G W H x y
  | [], _, _, _, h, e => by simp at e
  | _ :: _, _, 0, _, h, e => by cases h with | cons h1 h2 => simp at e; subst e; exact ⟨_, rfl, h1⟩
  | _ :: _, _, i + 1, x, h, e => by
    cases h with
    | cons h1 h2 =>
      obtain ⟨y, e1, r⟩ := RDs.get (i := i) h2 (by simpa using e)
      exact ⟨y, by simpa using e1, r⟩
theorem RDs.append : ∀ {d e : List D} {v w : List V}, RDs G W H d v → RDs G W H e w → RDs G W H (d ++ e) (v ++ w)
  | [], _, _, _, h, k => by cases h; exact k
  | _ :: _, _, _, _, h, k => by cases h with | cons h1 h2 => exact .cons h1 (RDs.append h2 k)
theorem RDs.take : ∀ {d : List D} {v : List V} (n : Nat), RDs G W H d v → RDs G W H (d.take n) (v.take n)
  | _, _, 0, _ => by simp; exact .nil
  | [], _, n + 1, h => by cases h; simp; exact .nil
  | _ :: _, _, n + 1, h => by cases h with | cons h1 h2 => simp; exact .cons h1 (RDs.take n h2)
theorem RDs.drop : ∀ {d : List D} {v : List V} (n : Nat), RDs G W H d v → RDs G W H (d.drop n) (v.drop n)
  | _, _, 0, h => by simpa using h
  | [], _, n + 1, h => by cases h; simp; exact .nil
  | _ :: _, _, n + 1, h => by cases h with | cons h1 h2 => simp; exact RDs.drop n h2
theorem RDs.set {x : D} {y : V} (r : RD G W H x y) : ∀ {d : List D} {v : List V} (n : Nat), RDs G W H d v → RDs G W H (d.set n x) (v.set n y)
  | [], _, _, h => by cases h; exact .nil
  | _ :: _, _, 0, h => by cases h with | cons h1 h2 => exact .cons r h2
  | _ :: _, _, n + 1, h => by cases h with | cons h1 h2 => exact .cons h1 (RDs.set r n h2)
theorem RDs.dropLast : ∀ {d : List D} {v : List V}, RDs G W H d v → RDs G W H d.dropLast v.dropLast := fun {d v} h => by
  rw [List.dropLast_eq_take, List.dropLast_eq_take, h.length]
  exact h.take _
theorem RDs.eraseIdx : ∀ {d : List D} {v : List V} (n : Nat), RDs G W H d v → RDs G W H (d.eraseIdx n) (v.eraseIdx n)
  | [], _, _, h => by cases h; exact .nil
  | _ :: _, _, 0, h => by cases h with | cons h1 h2 => exact h2
  | _ :: _, _, n + 1, h => by cases h with | cons h1 h2 => exact .cons h1 (RDs.eraseIdx n h2)
theorem RDs.replicate (k : Nat) {x : D} {y : V} (r : RD G W H x y) : RDs G W H (List.replicate k x) (List.replicate k y) := by
  induction k with
  | zero => exact .nil
  | succ k ih => exact .cons r ih
theorem RDs.flat_rep {d : List D} {v : List V} (h : RDs G W H d v) : ∀ k : Nat, RDs G W H (List.replicate k d).flatten (List.replicate k v).flatten
  | 0 => .nil
  | k + 1 => by rw [List.replicate_succ, List.replicate_succ, List.flatten_cons, List.flatten_cons]; exact h.append (RDs.flat_rep h k)
theorem RDs.reverse : ∀ {d : List D} {v : List V}, RDs G W H d v → RDs G W H d.reverse v.reverse
  | [], _, h => by cases h; exact .nil
  | _ :: _, _, h => by
    cases h with
    | cons h1 h2 => rw [List.reverse_cons, List.reverse_cons]; exact (RDs.reverse h2).append (.cons h1 .nil)
theorem RDs.ints : ∀ {ns : List Int} {v : List V}, RDs G W H (ns.map D.int) v → v = ns.map V.int
  | [], _, h => by cases h; rfl
  | n :: r, _, h => by
    cases h with
    | cons h1 h2 => cases h1; rw [RDs.ints h2]; rfl
theorem RDs.of_ints : ∀ (ns : List Int), RDs G W H (ns.map D.int) (ns.map V.int)
  | [] => .nil
  | n :: r => .cons (.int n) (RDs.of_ints r)
theorem RDs.bls : ∀ {ns : List Bool} {v : List V}, RDs G W H (ns.map D.bl) v → v = ns.map V.bl
  | [], _, h => by cases h; rfl
  | n :: r, _, h => by
    cases h with
    | cons h1 h2 => cases h1; rw [RDs.bls h2]; rfl
mutual
theorem RD.dp : ∀ {d : D} {v : V}, RD G W H d v → d.flat = true → Dp G.K H v d.py
  | .non, _, h, _ => by cases h; exact .non
  | .bl _, _, h, _ => by cases h; exact .bl _
  | .int _, _, h, _ => by cases h; exact .int _
  | .str _, _, h, _ => by cases h; exact .str _
  | .tup _, _, h, f => by cases h with | tup h1 h2 => exact .tup h1.sq (RDs.dp h2 (by simpa [D.flat] using f))
  | .lst _, _, h, f => by cases h with | lst h1 h2 => exact .lst h1.sq (RDs.dp h2 (by simpa [D.flat] using f))
  | .fn _, _, _, f => by simp [D.flat] at f
theorem RDs.dp : ∀ {d : List D} {v : List V}, RDs G W H d v → D.flats d = true → DpAll G.K H v (D.pys d)
  | [], _, h, _ => by cases h; exact .nil
  | _ :: _, _, h, f => by
    simp only [D.flats, Bool.and_eq_true] at f
    cases h with | cons h1 h2 => exact .cons (RD.dp h1 f.1) (RDs.dp h2 f.2)
end
end
end Mp

namespace Mp
open PySem L2

/-! ## outcomes -/
structure Exc where
  cls : Str
  fs : List (Str × D)
inductive Out (α : Type) where
  | ok (a : α) (M : Mem) | exc (e : Exc) (M : Mem) | bad
def Out.bind {α β : Type} : Out α → (α → Mem → Out β) → Out β
  | .ok a M, f => f a M
  | .exc e M, _ => .exc e M
  | .bad, _ => .bad
theorem Out.assoc {α β γ : Type} (r : Out α) (f : α → Mem → Out β) (g : β → Mem → Out γ) : (r.bind f).bind g = r.bind fun a M => (f a M).bind g := by cases r <;> rfl
theorem Out.bind_ok {α β : Type} (a : α) (M : Mem) (f : α → Mem → Out β) : (Out.ok a M).bind f = f a M := rfl

/-! ## the state -/
def Bar (W Z : Addr → Prop) : Addr → Prop := fun a => W a ∨ Z a
def add1 (W : Addr → Prop) (p : Addr) : Addr → Prop := fun a => W a ∨ a = p
def CellR (G : Gm) (B : Addr → Prop) (H : Hp) (p : Addr) : MC → Prop
  | .l xs => ∃ vs, H p = some (.lst vs) ∧ RDs G B H xs vs
  | .t kvs => ∃ us, H p = some (.dT (List.zip (kvs.map fun e => e.1.map Sum.inl) us)) ∧ RDs G B H (kvs.map (·.2)) us
  | .k kvs => ∃ us, H p = some (.dK (List.zip (kvs.map fun e => Sum.inl e.1) us)) ∧ RDs G B H (kvs.map (·.2)) us
structure Rel (G : Gm) (W Z : Addr → Prop) (φ : List Addr) (M : Mem) (H : Hp) : Prop where
  len : φ.length = M.length
  nd : φ.Nodup
  wt : ∀ a, W a → H a ≠ none
  zt : ∀ a, Z a → H a ≠ none
  sep : ∀ (i : Nat) p, φ[i]? = some p → H p ≠ none ∧ ¬ Z p
  cell : ∀ (i : Nat) p c, φ[i]? = some p → M[i]? = some (some c) → W p ∧ CellR G (Bar W Z) H p c
/-- a settled value -/
def SR (G : Gm) (B : Addr → Prop) (φ : List Addr) (H : Hp) : AV → V → Prop
  | .d x, v => RD G B H x v
  | .cell i, v => ∃ p, φ[i]? = some p ∧ v = .ref p
  | .fr xs, v => RD G B H (.lst xs) v
  | .scr ns, v => ∃ a, v = .ref a ∧ ScrAt G B H a (ns.map V.int)
/-- what an expression gives: H₀ is the heap ahead of it -/
def VR (G : Gm) (W Z : Addr → Prop) (φ : List Addr) (H₀ H : Hp) (M : Mem) : AV → V → Prop
  | .fr xs, v => ∃ p vs, v = .ref p ∧ H₀ p = none ∧ H p = some (.lst vs) ∧ ¬ Bar W Z p ∧ RDs G (add1 (Bar W Z) p) H xs vs ∧ Rel G W (add1 Z p) φ M H
  | x, v => SR G (Bar W Z) φ H x v
structure EnvR (G : Gm) (B : Addr → Prop) (φ : List Addr) (H : Hp) (env : Env) (σ : St) : Prop where
  len : env.length = σ.length
  at_ : ∀ (i : Nat) av, env[i]? = some (some av) → ∃ v, σ[i]? = some (some v) ∧ SR G B φ H av v
def XR (G : Gm) (B : Addr → Prop) (H : Hp) (e : Exc) (c : Value) (d : Option Addr) : Prop :=
  ∃ C, G.mg e.cls = some (.ref C) ∧ c = .ref C ∧ ((e.fs = [] ∧ d = none) ∨ ∃ dd fs, d = some dd ∧ H dd = some (.xd fs) ∧ ¬ B dd ∧ ∀ f x, e.fs.lookup f = some x → ∃ v, fs.lookup f = some v ∧ RD G B H x v)

section
variable {G : Gm} {W W' Z B B' : Addr → Prop} {φ : List Addr} {H H' H₀ : Hp} {M M' : Mem} {env : Env} {σ : St}
theorem Ext.bar (x : Ext W H W' H') : Ext (Bar W Z) H (Bar W' Z) H' :=
  ⟨fun a o h n => ⟨(x.keep a o h fun z => n (.inl z)).1, fun z => z.elim (x.keep a o h fun z => n (.inl z)).2 fun z => n (.inr z)⟩, x.live⟩
theorem Ext.bar1 {p : Addr} (x : Ext B H B' H') (hp : H p = none) : Ext B H (add1 B' p) H' :=
  ⟨fun a o h n => ⟨(x.keep a o h n).1, fun z => z.elim (x.keep a o h n).2 fun z => by subst z; rw [hp] at h; cases h⟩, x.live⟩
theorem SR.ext {av : AV} {v : V} (h : SR G B φ H av v) (x : Ext B H B' H') : SR G B' φ H' av v := by
  cases av with
  | d y => exact RD.ext x h
  | cell i => exact h
  | fr xs => exact RD.ext x h
  | scr ns => obtain ⟨a, e, s⟩ := h; exact ⟨a, e, s.ext x⟩
theorem SR.app {av : AV} {v : V} (h : SR G B φ H av v) (ψ : List Addr) : SR G B (φ ++ ψ) H av v := by
  cases av with
  | d y => exact h
  | cell i => obtain ⟨p, e, r⟩ := h; exact ⟨p, by rw [List.getElem?_append_left]; exact e; exact (List.getElem?_eq_some_iff.mp e).1, r⟩
  | fr xs => exact h
  | scr ns => exact h
theorem EnvR.ext (h : EnvR G B φ H env σ) (x : Ext B H B' H') : EnvR G B' φ H' env σ :=
  ⟨h.len, fun i av e => let ⟨v, e1, r⟩ := h.at_ i av e; ⟨v, e1, r.ext x⟩⟩
theorem EnvR.app (h : EnvR G B φ H env σ) (ψ : List Addr) : EnvR G B (φ ++ ψ) H env σ :=
  ⟨h.len, fun i av e => let ⟨v, e1, r⟩ := h.at_ i av e; ⟨v, e1, r.app ψ⟩⟩
theorem VR.sr {av : AV} {v : V} (h : VR G W Z φ H₀ H M av v) : SR G (Bar W Z) φ H av v := by
  cases av with
  | d y => exact h
  | cell i => exact h
  | scr ns => exact h
  | fr xs =>
    obtain ⟨p, vs, e, _, h1, h2, h3, _⟩ := h
    subst e
    exact .lst ⟨h1, h2⟩ (h3.less fun a z => .inl z)
/-- of a value that is no new list -/
theorem VR.of {av : AV} {v : V} (h : SR G (Bar W Z) φ H av v) (n : ∀ xs, av ≠ .fr xs) : VR G W Z φ H₀ H M av v := by
  cases av with
  | fr xs => exact absurd rfl (n xs)
  | _ => exact h
theorem VR.back {H1 : Hp} {W1 : Addr → Prop} {av : AV} {v : V} (h : VR G W' Z φ H1 H' M av v) (x : Ext W H W1 H1) : VR G W' Z φ H H' M av v := by
  cases av with
  | fr xs => obtain ⟨p, vs, e, h0, r⟩ := h; exact ⟨p, vs, e, x.fresh h0, r⟩
  | _ => exact h
theorem CellR.ext {p : Addr} {c : MC} (h : CellR G B H p c) (x : Ext B H B' H') (e : H' p = H p) : CellR G B' H' p c := by
  cases c with
  | l xs => obtain ⟨vs, h1, r⟩ := h; exact ⟨vs, by rw [e]; exact h1, r.ext x⟩
  | t kvs => obtain ⟨vs, h1, r⟩ := h; exact ⟨vs, by rw [e]; exact h1, r.ext x⟩
  | k kvs => obtain ⟨vs, h1, r⟩ := h; exact ⟨vs, by rw [e]; exact h1, r.ext x⟩
theorem Rel.fresh (R : Rel G W Z φ M H) {p : Addr} (h : H p = none) : ¬ W p := fun z => R.wt p z h
/-- a new object -/
theorem Ext.laid (R : Rel G W Z φ M H) {p : Addr} {o : HO} (h : H p = none) : Ext W H W (upd H p o) :=
  ⟨fun a u e n => ⟨by rw [upd_ne (ne_of_none e h)]; exact e, n⟩, fun a e => by
    by_cases q : a = p
    · subst q; exact absurd h e
    · rw [upd_ne q]; exact e⟩
theorem Rel.laid (R : Rel G W Z φ M H) {p : Addr} {o : HO} (h : H p = none) : Rel G W (add1 Z p) φ M (upd H p o) := by
  have x := Ext.laid R (o := o) h
  refine ⟨R.len, R.nd, fun a w => x.live a (R.wt a w), fun a z => z.elim (fun z => x.live a (R.zt a z)) fun z => by subst z; rw [upd_same]; simp, fun i q e => ⟨x.live q (R.sep i q e).1, fun z => z.elim (R.sep i q e).2 fun z => by subst z; exact (R.sep i _ e).1 h⟩, fun i q c e1 e2 => ?_⟩
  obtain ⟨w, r⟩ := R.cell i q c e1 e2
  have hq : q ≠ p := fun z => by subst z; exact R.wt _ w h
  refine ⟨w, r.ext ?_ (upd_ne hq)⟩
  refine ⟨fun a u e n => ?_, x.live⟩
  have ha : a ≠ p := ne_of_none e h
  refine ⟨by rw [upd_ne ha]; exact e, fun z => ?_⟩
  rcases z with z | z | z
  · exact n (.inl z)
  · exact n (.inr z)
  · exact ha z
theorem Rel.unbar {p : Addr} (R : Rel G W (add1 Z p) φ M H) : Rel G W Z φ M H := by
  refine ⟨R.len, R.nd, R.wt, fun a z => R.zt a (.inl z), fun i q e => ⟨(R.sep i q e).1, fun z => (R.sep i q e).2 (.inl z)⟩, fun i q c e1 e2 => ?_⟩
  obtain ⟨w, r⟩ := R.cell i q c e1 e2
  exact ⟨w, r.ext (Ext.less fun a z => z.imp id .inl) rfl⟩
theorem Rel.laid0 (R : Rel G W Z φ M H) {p : Addr} {o : HO} (h : H p = none) : Rel G W Z φ M (upd H p o) := (R.laid h).unbar
end

/-! ## readings -/
section
variable {α β : Type}
/-- what an outcome asks: R tells of the result -/
def RunG (R : (Addr → Prop) → Hp → Mem → α → β → Prop) (G : Gm) (Z : Addr → Prop) (φ : List Addr) (W : Addr → Prop) (H : Hp) (r : Out α) (Q : β → Hp → Prop) (E : XK) : Prop :=
  match r with
  | .ok av M' => ∀ W' H' v, Rel G W' Z φ M' H' → Ext W H W' H' → R W' H' M' av v → Q v H'
  | .exc e M' => ∀ W' H' c d, Rel G W' Z φ M' H' → Ext W H W' H' → XR G (Bar W' Z) H' e c d → E c d H'
  | .bad => False
end
abbrev Run (G : Gm) (Z : Addr → Prop) (φ : List Addr) (W : Addr → Prop) (H : Hp) (r : Out AV) (Q : VK) (E : XK) : Prop :=
  RunG (fun W' H' M' av v => VR G W' Z φ H H' M' av v) G Z φ W H r Q E
def SRs (G : Gm) (B : Addr → Prop) (φ : List Addr) (H : Hp) : List AV → List V → Prop
  | [], [] => True
  | x :: xs, v :: vs => SR G B φ H x v ∧ SRs G B φ H xs vs
  | _, _ => False
theorem SRs.ext {G : Gm} {B B' : Addr → Prop} {φ : List Addr} {H H' : Hp} (x : Ext B H B' H') : ∀ {xs : List AV} {vs : List V}, SRs G B φ H xs vs → SRs G B' φ H' xs vs
  | [], [], _ => trivial
  | [], _ :: _, h => h.elim
  | _ :: _, [], h => h.elim
  | _ :: _, _ :: _, ⟨h1, h2⟩ => ⟨h1.ext x, SRs.ext x h2⟩
abbrev RunL (G : Gm) (Z : Addr → Prop) (φ : List Addr) (W : Addr → Prop) (H : Hp) (r : Out (List AV)) (Q : List V → Hp → Prop) (E : XK) : Prop :=
  RunG (fun W' H' _ avs vs => SRs G (Bar W' Z) φ H' avs vs) G Z φ W H r Q E
abbrev RunB (G : Gm) (Z : Addr → Prop) (φ : List Addr) (W : Addr → Prop) (H : Hp) (r : Out Bool) (Q : Bool → Hp → Prop) (E : XK) : Prop :=
  RunG (fun _ _ _ a b => a = b) G Z φ W H r Q E

abbrev SE := Env → Mem → Out AV
abbrev SL := Env → Mem → Out (List AV)
abbrev SB := Env → Mem → Out Bool
def rdE (G : Gm) (f : SE) (E : WX) : TE := fun σ H Q => ∃ W Z φ env M, Rel G W Z φ M H ∧ EnvR G (Bar W Z) φ H env σ ∧ Run G Z φ W H (f env M) Q fun c d H' => E c d σ H'
def rdL (G : Gm) (f : SL) (E : WX) : TA := fun σ H Q => ∃ W Z φ env M, Rel G W Z φ M H ∧ EnvR G (Bar W Z) φ H env σ ∧ RunL G Z φ W H (f env M) Q fun c d H' => E c d σ H'
def rdB (G : Gm) (f : SB) (E : WX) : TT := fun σ H Q => ∃ W Z φ env M, Rel G W Z φ M H ∧ EnvR G (Bar W Z) φ H env σ ∧ RunB G Z φ W H (f env M) Q fun c d H' => E c d σ H'

abbrev gm (X : Cx) : Gm := ⟨X.K, X.mg⟩
/-- the expression is modelled by f -/
abbrev GE (X : Cx) (E : WX) (e : Expr) (f : SE) : Prop := PE X e (rdE (gm X) f E)
abbrev GL (X : Cx) (E : WX) (es : List Expr) (f : SL) : Prop := PA X es (rdL (gm X) f E)
abbrev GB (X : Cx) (E : WX) (e : Expr) (f : SB) : Prop := PT X e (rdB (gm X) f E)
abbrev GBw (X : Cx) (E : WX) (e : Expr) (f : SB) : Prop := PW X e (rdB (gm X) f E)

section
variable {X : Cx} {e : Expr} {es : List Expr}
theorem PE.imp {t t' : TE} (h : PE X e t) (k : ∀ σ H Q, t' σ H Q → t σ H Q) : PE X e t' := ⟨fun pins s σ H Q I q => h.run pins s σ H Q I (k σ H Q q)⟩
theorem PT.imp {t t' : TT} (h : PT X e t) (k : ∀ σ H Q, t' σ H Q → t σ H Q) : PT X e t' := ⟨fun pins s σ H Q I q => h.run pins s σ H Q I (k σ H Q q)⟩
theorem PW.imp {t t' : TT} (h : PW X e t) (k : ∀ σ H Q, t' σ H Q → t σ H Q) : PW X e t' := ⟨fun wh pins s σ H Q I q => h.run wh pins s σ H Q I (k σ H Q q)⟩
theorem PA.imp {t t' : TA} (h : PA X es t) (k : ∀ σ H Q, t' σ H Q → t σ H Q) : PA X es t' := ⟨fun pos pins s σ H Q I q => h.run pos pins s σ H Q I (k σ H Q q)⟩
end

section
variable {G : Gm} {W W1 Z : Addr → Prop} {φ : List Addr} {H H1 : Hp} {M : Mem} {env : Env} {σ : St} {Q : VK} {E : XK}
theorem Run.later {r : Out AV} (x : Ext W H W1 H1) (h : Run G Z φ W H r Q E) : Run G Z φ W1 H1 r Q E := by
  cases r with
  | ok a M' => exact fun W' H' v R y z => h W' H' v R (x.trans y) (z.back x)
  | exc e M' => exact fun W' H' c d R y z => h W' H' c d R (x.trans y) z
  | bad => exact h
theorem RunL.later {r : Out (List AV)} {Q : List V → Hp → Prop} (x : Ext W H W1 H1) (h : RunL G Z φ W H r Q E) : RunL G Z φ W1 H1 r Q E := by
  cases r with
  | ok a M' => exact fun W' H' v R y z => h W' H' v R (x.trans y) z
  | exc e M' => exact fun W' H' c d R y z => h W' H' c d R (x.trans y) z
  | bad => exact h
theorem RunB.later {r : Out Bool} {Q : Bool → Hp → Prop} (x : Ext W H W1 H1) (h : RunB G Z φ W H r Q E) : RunB G Z φ W1 H1 r Q E := by
  cases r with
  | ok a M' => exact fun W' H' v R y z => h W' H' v R (x.trans y) z
  | exc e M' => exact fun W' H' c d R y z => h W' H' c d R (x.trans y) z
  | bad => exact h
theorem RunG.imp {α β : Type} {R : (Addr → Prop) → Hp → Mem → α → β → Prop} {r : Out α} {Q Q' : β → Hp → Prop} (h : RunG R G Z φ W H r Q E) (k : ∀ v H, Q v H → Q' v H) : RunG R G Z φ W H r Q' E := by
  cases r with
  | ok a M' => exact fun W' H' v R y z => k _ _ (h W' H' v R y z)
  | exc e M' => exact h
  | bad => exact h
/-- an outcome bound: the first part, then the rest from where it ends -/
theorem RunG.bind {α β γ δ : Type} {R : (Addr → Prop) → Hp → Mem → α → β → Prop} {R2 : (Addr → Prop) → Hp → (Addr → Prop) → Hp → Mem → γ → δ → Prop} {r : Out α} {k : α → Mem → Out γ} {Q : δ → Hp → Prop}
    (h : RunG (R2 W H) G Z φ W H (r.bind k) Q E)
    (later : ∀ W1 H1 a M1, Ext W H W1 H1 → RunG (R2 W H) G Z φ W H (k a M1) Q E → RunG (R2 W1 H1) G Z φ W1 H1 (k a M1) Q E) :
    RunG R G Z φ W H r (fun v H1 => ∃ W1 M1 a, r = .ok a M1 ∧ Rel G W1 Z φ M1 H1 ∧ Ext W H W1 H1 ∧ R W1 H1 M1 a v ∧ RunG (R2 W1 H1) G Z φ W1 H1 (k a M1) Q E) E := by
  cases r with
  | ok a M' => exact fun W' H' v R1 y z => ⟨W', M', a, rfl, R1, y, z, later _ _ _ _ y h⟩
  | exc e M' => exact h
  | bad => exact h
theorem Run.bind {α β : Type} {R : (Addr → Prop) → Hp → Mem → α → β → Prop} {r : Out α} {k : α → Mem → Out AV} (h : Run G Z φ W H (r.bind k) Q E) :
    RunG R G Z φ W H r (fun v H1 => ∃ W1 M1 a, r = .ok a M1 ∧ Rel G W1 Z φ M1 H1 ∧ Ext W H W1 H1 ∧ R W1 H1 M1 a v ∧ Run G Z φ W1 H1 (k a M1) Q E) E :=
  RunG.bind (R2 := fun W H W' H' M' av v => VR G W' Z φ H H' M' av v) h fun _ _ _ _ x q => Run.later x q
theorem RunL.bind {α β : Type} {R : (Addr → Prop) → Hp → Mem → α → β → Prop} {r : Out α} {k : α → Mem → Out (List AV)} {Q : List V → Hp → Prop} (h : RunL G Z φ W H (r.bind k) Q E) :
    RunG R G Z φ W H r (fun v H1 => ∃ W1 M1 a, r = .ok a M1 ∧ Rel G W1 Z φ M1 H1 ∧ Ext W H W1 H1 ∧ R W1 H1 M1 a v ∧ RunL G Z φ W1 H1 (k a M1) Q E) E :=
  RunG.bind (R2 := fun _ _ W' H' _ avs vs => SRs G (Bar W' Z) φ H' avs vs) h fun _ _ _ _ x q => RunL.later x q
theorem RunB.bind {α β : Type} {R : (Addr → Prop) → Hp → Mem → α → β → Prop} {r : Out α} {k : α → Mem → Out Bool} {Q : Bool → Hp → Prop} (h : RunB G Z φ W H (r.bind k) Q E) :
    RunG R G Z φ W H r (fun v H1 => ∃ W1 M1 a, r = .ok a M1 ∧ Rel G W1 Z φ M1 H1 ∧ Ext W H W1 H1 ∧ R W1 H1 M1 a v ∧ RunB G Z φ W1 H1 (k a M1) Q E) E :=
  RunG.bind (R2 := fun _ _ _ _ _ a b => a = b) h fun _ _ _ _ x q => RunB.later x q
/-- the end: a value at hand -/
theorem Run.ok {av : AV} {v : V} (R : Rel G W Z φ M H) (h : Run G Z φ W H (.ok av M) Q E) (r : SR G (Bar W Z) φ H av v) (n : ∀ xs, av ≠ .fr xs) : Q v H := h W H v R (Ext.refl _ _) (.of r n)
/-- the end: a new list -/
theorem Run.new {xs : List D} {vs : List V} (R : Rel G W Z φ M H) (h : Run G Z φ W H (.ok (.fr xs) M) Q E) (r : RDs G (Bar W Z) H xs vs) : ∀ p, H p = none → Q (.ref p) (upd H p (.lst vs)) := fun p hp => by
  have x := Ext.laid R (o := .lst vs) hp
  refine h W _ _ (R.laid0 hp) x ⟨p, vs, rfl, hp, upd_same, ?_, r.ext ?_, R.laid hp⟩
  · exact fun z => z.elim (fun z => R.wt p z hp) fun z => R.zt p z hp
  · exact Ext.bar1 x.bar hp
end
end Mp

namespace Mp
open PySem L2

/-! ## the functions -/
def AV.settle : AV → AV
  | .fr xs => .d (.lst xs)
  | x => x
/-- the items of a list, of a tuple -/
def lstOf (M : Mem) : AV → Option (List D)
  | .d (.lst xs) => some xs
  | .fr xs => some xs
  | .cell i => match M[i]? with | some (some (.l xs)) => some xs | _ => none
  | .scr ns => some (ns.map D.int)
  | _ => none
def tupOf : AV → Option (List D)
  | .d (.tup xs) => some xs
  | _ => none
/-- as a datum that is looked at alone -/
def look (M : Mem) : AV → Option D
  | .d x => some x
  | .scr _ => none
  | a => (lstOf M a).map D.lst
/-- as a datum that is kept: a cell is closed -/
def keepD : AV → Mem → Option (D × Mem)
  | .d x, M => some (x, M)
  | .fr xs, M => some (.lst xs, M)
  | .cell i, M => match M[i]? with | some (some (.l xs)) => some (.lst xs, M.set i none) | _ => none
  | .scr _, _ => none
def keepDs : List AV → Mem → Option (List D × Mem)
  | [], M => some ([], M)
  | a :: r, M => match keepD a M with
    | none => none
    | some (x, M1) => match keepDs r M1 with
      | none => none
      | some (xs, M2) => some (x :: xs, M2)

def sVar (i : Nat) : SE := fun env M => match env[i]? with
  | some (some av) => .ok av.settle M
  | _ => .bad
def sCon (d : D) : SE := fun _ M => .ok (.d d) M
def sTwo (op : AV → AV → Mem → Out AV) (f g : SE) : SE := fun env M => (f env M).bind fun x M1 => (g env M1).bind fun y M2 => op x y M2
def sOne (op : AV → Mem → Out AV) (f : SE) : SE := fun env M => (f env M).bind fun x M1 => op x M1
/-- the size of a product is in order -/
def mulOk (i j : Int) : Bool := decide (i.natAbs < 2 ^ 64) || decide (j.natAbs < 2 ^ 64) || decide (i.natAbs.log2 + j.natAbs.log2 < 100000000)
def divOk (j : Int) : Bool := decide (j.natAbs < 2 ^ 30) || decide (j.natAbs.log2 < 9000)
def guard {α : Type} (b : Bool) (r : Out α) : Out α := if b = true then r else .bad

def binop : Operator → AV → AV → Mem → Out AV
  | .Add, .d (.int i), .d (.int j), M => .ok (.d (.int (i + j))) M
  | .Add, .d (.str x), .d (.str y), M => guard (decide (x.length + y.length ≤ sizeLine)) (.ok (.d (.str (x ++ y))) M)
  | .Add, .d (.tup xs), .d (.tup ys), M => guard (decide (xs.length + ys.length ≤ sizeLine)) (.ok (.d (.tup (xs ++ ys))) M)
  | .Add, .d (.lst xs), .d (.lst ys), M => guard (decide (xs.length + ys.length ≤ sizeLine)) (.ok (.fr (xs ++ ys)) M)
  | .Sub, .d (.int i), .d (.int j), M => .ok (.d (.int (i - j))) M
  | .Mult, .d (.int i), .d (.int j), M => guard (mulOk i j) (.ok (.d (.int (i * j))) M)
  | .Mult, .d (.lst xs), .d (.int j), M => guard (decide (-(2 ^ 63) ≤ j ∧ j < 2 ^ 63 ∧ xs.length * j.toNat ≤ sizeLine)) (.ok (.fr (List.replicate j.toNat xs).flatten) M)
  | .Mult, .d (.tup xs), .d (.int j), M => guard (decide (xs ≠ [] ∧ -1000 ≤ j ∧ j ≤ 1000 ∧ xs.length ≤ 1000)) (.ok (.d (.tup (List.replicate j.toNat xs).flatten)) M)
  | .FloorDiv, .d (.int i), .d (.int j), M => if 0 < j then guard (divOk j) (.ok (.d (.int (i / j))) M) else guard (decide (j ≠ 0) && divOk j) (.ok (.d (.int (i.fdiv j))) M)
  | .Mod, .d (.int i), .d (.int j), M => if 0 < j then .ok (.d (.int (i % j))) M else guard (decide (j ≠ 0)) (.ok (.d (.int (i.fmod j))) M)
  | .Pow, .d (.int i), .d (.int j), M => guard (decide (0 ≤ j ∧ j ≤ 1000000 ∧ i.natAbs < 2 ^ 64)) (.ok (.d (.int (i ^ j.toNat))) M)
  | _, _, _, _ => .bad
/-- lists are brought to their items first -/
def opnd (M : Mem) (a : AV) : AV := match lstOf M a, a with
  | some xs, .cell _ => .d (.lst xs)
  | some xs, .fr _ => .d (.lst xs)
  | _, a => a
def sBin (op : Operator) (f g : SE) : SE := sTwo (fun x y M => binop op (opnd M x) (opnd M y) M) f g
def negOp : AV → Mem → Out AV
  | .d (.int i), M => .ok (.d (.int (-i))) M
  | _, _ => .bad
def sNeg (f : SE) : SE := sOne negOp f

/-! ## how settled values are met -/
section
variable {G : Gm} {W W' Z B : Addr → Prop} {φ : List Addr} {H H' H₀ : Hp} {M : Mem} {env : Env} {σ : St} {Q : VK} {E : XK}
theorem SR.settle {av : AV} {v : V} (h : SR G B φ H av v) : SR G B φ H av.settle v := by cases av <;> exact h
theorem settle_ne {av : AV} : ∀ xs, av.settle ≠ .fr xs := by cases av <;> intro xs h <;> cases h
/-- a list is met, however it is held -/
theorem Rel.lst (R : Rel G W Z φ M H) {av : AV} {v : V} {xs : List D} (r : SR G (Bar W Z) φ H av v) (h : lstOf M av = some xs) : ∃ p vs, v = .ref p ∧ SqL G.K H p vs ∧ RDs G (Bar W Z) H xs vs ∧ ((∀ ns, av ≠ .scr ns) → H p = some (.lst vs)) := by
  unfold lstOf at h
  split at h
  · cases h; cases r with | lst h1 h2 => exact ⟨_, _, rfl, h1.sq, h2, fun _ => h1.1⟩
  · cases h; cases r with | lst h1 h2 => exact ⟨_, _, rfl, h1.sq, h2, fun _ => h1.1⟩
  · obtain ⟨p, e, rfl⟩ := r
    split at h
    · rename_i e2
      cases h
      obtain ⟨_, vs, h1, h2⟩ := R.cell _ _ _ e e2
      exact ⟨p, vs, rfl, .of h1, h2, fun _ => h1⟩
    · cases h
  · cases h; obtain ⟨a, rfl, s⟩ := r; exact ⟨a, _, rfl, s.sq, RDs.of_ints _, fun n => absurd rfl (n _)⟩
  · cases h
theorem tup_met {av : AV} {v : V} {xs : List D} (r : SR G B φ H av v) (h : tupOf av = some xs) : ∃ p vs, v = .ref p ∧ TupAt G B H p vs ∧ RDs G B H xs vs := by
  unfold tupOf at h
  split at h
  · cases h; cases r with | tup h1 h2 => exact ⟨_, _, rfl, h1, h2⟩
  · cases h
/-- a list brought to its items: enough to read it -/
inductive Opd (G : Gm) (B : Addr → Prop) (H : Hp) : AV → V → Prop where
  | d {x : D} {v : V} : (∀ xs, x ≠ .lst xs) → RD G B H x v → Opd G B H (.d x) v
  | l {xs : List D} {p : Addr} {vs : List V} : H p = some (.lst vs) → RDs G B H xs vs → Opd G B H (.d (.lst xs)) (.ref p)
  | no {a : AV} {v : V} : (∀ x, a ≠ .d x) → Opd G B H a v
theorem Rel.opd (R : Rel G W Z φ M H) {av : AV} {v : V} (r : SR G (Bar W Z) φ H av v) : Opd G (Bar W Z) H (opnd M av) v := by
  cases av with
  | d x =>
    have e : opnd M (.d x) = .d x := by unfold opnd; split <;> simp_all
    rw [e]
    cases x with
    | lst xs => cases r with | lst h1 h2 => exact .l h1.1 h2
    | _ => exact .d (fun _ h => by cases h) r
  | scr ns => exact .no fun x h => by unfold opnd at h; split at h <;> simp_all
  | fr xs =>
    have e : opnd M (.fr xs) = .d (.lst xs) := rfl
    rw [e]
    cases r with | lst h1 h2 => exact .l h1.1 h2
  | cell i =>
    cases e : lstOf M (.cell i) with
    | none => exact .no fun x h => by unfold opnd at h; rw [e] at h; cases h
    | some xs =>
      have e2 : opnd M (.cell i) = .d (.lst xs) := by unfold opnd; rw [e]
      rw [e2]
      obtain ⟨p, vs, rfl, _, h2, h3⟩ := R.lst r e
      exact .l (h3 fun _ h => by cases h) h2
end

/-! ## a tuple times 1, 0 or less -/
section
open PySem.Spec PyProof.Rows
set_option maxHeartbeats 4000000
theorem tuple_mul1 (l : Addr) (items : Array Value) (n : Nat) (dd : Option Addr) (sl : Array (Option Value)) (u : Tok) :
    Meets (Builtin.«tuple.__mul__» ⟨[.ref l, .int 1 u], []⟩) (fun _ R s => s.heap.get? l = some { cls := .type "tuple", dict := dd, data := .seq items n, slots := sl } ∧ R (.ok (.ret (Value.ref l))) s) :=
  .of_wp fun prog w A R s h => by
    obtain ⟨hp, g, d, tk, os⟩ := s
    obtain ⟨hl, h⟩ := h
    have f1 := AutoSeq1.idx_int
    have c1 : (items.isEmpty || (1 : Int) == 1) = true := by rw [show ((1 : Int) == 1) = true from rfl, Bool.or_true]
    wp_walk using wpAny_loadPart' hl
    exact ⟨_, rfl, h⟩
theorem tuple_mul0 (l : Addr) (items : Array Value) (n : Nat) (dd : Option Addr) (sl : Array (Option Value)) (x : Int) (u : Tok) (c0 : (decide (x < -(2 ^ 63)) || decide (x ≥ 2 ^ 63)) = false) (c1 : (items.isEmpty || x == 1) = false) (c2 : (decide (x ≤ 0) || items.isEmpty) = true) :
    Meets (Builtin.«tuple.__mul__» ⟨[.ref l, .int x u], []⟩) (fun _ R s => s.heap.get? l = some { cls := .type "tuple", dict := dd, data := .seq items n, slots := sl } ∧
      R (.ok (.ret (Value.ref s.heap.objs.size))) { s with heap := s.heap.push { cls := Value.type "tuple", data := Data.seq #[] }, toks := s.toks }) :=
  .of_wp fun prog w A R s h => by
    obtain ⟨hp, g, d, tk, os⟩ := s
    obtain ⟨hl, h⟩ := h
    have f1 := AutoSeq1.idx_int
    wp_walk using wpAny_loadPart' hl
    repeat (first
      | (refine wpAny_ite_false (decide_eq_false (by rw [c0]; exact Bool.false_ne_true)) ?_; wp_walk using wpAny_loadPart' hl)
      | (refine wpAny_ite_false (decide_eq_false (by rw [c1]; exact Bool.false_ne_true)) ?_; wp_walk using wpAny_loadPart' hl)
      | (refine wpAny_ite_true (decide_eq_true c2) ?_; wp_walk using wpAny_loadPart' hl))
    exact ⟨_, rfl, h⟩
/-- a tuple once, or not at all -/
def rRepU (K : PySem.W.Frag) : R2 := fun x y H Q => ∃ l k xs, x = .ref l ∧ y = .int k ∧ SqT K H l xs ∧ xs ≠ [] ∧ -1000 ≤ k ∧ k ≤ 1 ∧ (k = 1 → Q (.ref l) H) ∧ (k ≤ 0 → ∀ p, H p = none → Q (.ref p) (upd H p (.tup [])))
theorem op_repU {X : Cx} : OpR X (binaryOp .Mult) (rRepU X.K) := by
  intro pins s σ H x y v u Q I rx ry h
  obtain ⟨l, k, xs, rfl, rfl, hT, hne, h1, h2, q1, q0⟩ := h
  cases rx
  obtain ⟨t, rfl⟩ := ry
  obtain ⟨its, r, ⟨⟨cls, dd, data, sl⟩, ho, hc, n, hd⟩, hs⟩ := I.tuple hT
  simp only at hc hd
  subst hc hd
  have hle : its.length = xs.length := r.length.symm
  have hn : its ≠ [] := fun e => hne (by
    rw [e] at hle
    exact List.eq_nil_of_length_eq_zero hle.symm)
  have hi : its.toArray.isEmpty = false := by
    cases its with
    | nil => exact absurd rfl hn
    | cons a b => rfl
  by_cases hk : k = 1
  · subst hk
    refine wpAny_binaryOp_repeat_ref (T := "tuple") (U := "int") (by decide) ⟨_, ho, rfl⟩ (fun s' => typeIs_int s' 1 t) noFill_tuple_mul F.fills_int_mul F.slot_int_rmul repeat_tuple F.slot_int_index.lookup
      (call_meets F.slot_int_rmul (typeIs_int s 1 t) F.entry_int_rmul (F.args_int_rmul_2 _ _) (int_rmul_tuple 1 t l its.toArray n dd sl)
        ⟨ho, rfl, ⟨_, ho, rfl⟩, call_meets F.slot_tuple_mul ⟨_, ho, rfl⟩ F.entry_tuple_mul (F.args_tuple_mul_2 _ _) (tuple_mul1 l its.toArray n dd sl t) ⟨ho, ?_⟩⟩)
    exact ⟨.ref l, H, I, rfl, q1 rfl⟩
  · have c0 : (decide (k < -(2 ^ 63)) || decide (k ≥ 2 ^ 63)) = false := by
      rw [decide_eq_false (by omega), decide_eq_false (by omega)] <;> rfl
    have c1 : (its.toArray.isEmpty || k == 1) = false := by
      rw [hi, Bool.false_or]
      exact beq_eq_false_iff_ne.mpr (by omega)
    have c2 : (decide (k ≤ 0) || its.toArray.isEmpty) = true := by
      rw [hi, Bool.or_false]
      exact decide_eq_true (by omega)
    refine wpAny_binaryOp_repeat_ref (T := "tuple") (U := "int") (by decide) ⟨_, ho, rfl⟩ (fun s' => typeIs_int s' k t) noFill_tuple_mul F.fills_int_mul F.slot_int_rmul repeat_tuple F.slot_int_index.lookup
      (call_meets F.slot_int_rmul (typeIs_int s k t) F.entry_int_rmul (F.args_int_rmul_2 _ _) (int_rmul_tuple k t l its.toArray n dd sl)
        ⟨ho, rfl, ⟨_, ho, rfl⟩, call_meets F.slot_tuple_mul ⟨_, ho, rfl⟩ F.entry_tuple_mul (F.args_tuple_mul_2 _ _) (tuple_mul0 l its.toArray n dd sl k t c0 c1 c2) ⟨ho, ?_⟩⟩)
    refine ⟨.ref s.heap.objs.size, _, I.laid (t' := s.toks) (o := .tup []) (fun b ob q => Heap.get?_push_of_some _ q) (Nat.le_refl _) ?_, rfl, q0 (by omega) _ (I.hok.fresh (Nat.le_refl _))⟩
    exact ⟨by rw [sizeLine_eq]; exact Nat.zero_le _, [], .nil, IsTup.new _ _⟩
end
/-! ## the rules -/
section
variable {X : Cx} {E : WX} {a b c e : Expr} {f g : SE} {pos : Pos}
theorem ge_var {i : Nat} {x : Str} (hN : X.N[i]? = some x) (hv : Vis X.env.scope x) (hd : (x == ("__debug__" : Str)) = false) (hcd : (x == ("__classdict__" : Str)) = false) : GE X E (.Name x pos) (sVar i) :=
  PE.imp (pe_var hN hv hd hcd) fun σ H Q ⟨W, Z, φ, env, M, R, Er, h⟩ => by
    unfold sVar at h
    split at h
    · rename_i av e
      obtain ⟨v, e1, r⟩ := Er.at_ i av e
      exact ⟨v, e1, Run.ok R h r.settle settle_ne⟩
    · exact h.elim
theorem ge_con {d : D} {v : V} (h : PE X e (tC v)) (r : ∀ B H, RD (gm X) B H d v) : GE X E e (sCon d) :=
  PE.imp h fun σ H Q ⟨W, Z, φ, env, M, R, Er, h⟩ => Run.ok R h (r _ _) (fun _ h => by cases h)
/-- two operands, then an operation by values -/
theorem ge_two {op : AV → AV → Mem → Out AV} {r : R2} (hab : ∀ {ta tb : TE}, PE X a ta → PE X b tb → PE X e (tOp r ta tb)) (ha : GE X E a f) (hb : GE X E b g)
    (hr : ∀ W Z φ M H x y v u Q E, Rel (gm X) W Z φ M H → SR (gm X) (Bar W Z) φ H x v → SR (gm X) (Bar W Z) φ H y u → Run (gm X) Z φ W H (op x y M) Q E → r v u H Q) : GE X E e (sTwo op f g) :=
  PE.imp (hab ha hb) fun σ H Q ⟨W, Z, φ, env, M, R, Er, h⟩ =>
    ⟨W, Z, φ, env, M, R, Er, (Run.bind h).imp fun v H1 ⟨W1, M1, x, _, R1, x1, r1, h2⟩ =>
      ⟨W1, Z, φ, env, M1, R1, Er.ext x1.bar, (Run.bind h2).imp fun u H2 ⟨W2, M2, y, _, R2, x2, r2, h4⟩ => hr W2 Z φ M2 H2 x y v u Q _ R2 (r1.sr.ext x2.bar) r2.sr h4⟩⟩
theorem ge_one {op : AV → Mem → Out AV} {r : V → Hp → VK → Prop} (hab : ∀ {ta : TE}, PE X a ta → PE X e (tUn r ta)) (ha : GE X E a f)
    (hr : ∀ W Z φ M H x v Q E, Rel (gm X) W Z φ M H → SR (gm X) (Bar W Z) φ H x v → Run (gm X) Z φ W H (op x M) Q E → r v H Q) : GE X E e (sOne op f) :=
  PE.imp (hab ha) fun σ H Q ⟨W, Z, φ, env, M, R, Er, h⟩ =>
    ⟨W, Z, φ, env, M, R, Er, (Run.bind h).imp fun v H1 ⟨W1, M1, x, _, R1, x1, r1, h2⟩ => hr W1 Z φ M1 H1 x v Q _ R1 r1.sr h2⟩
theorem guard_run {α : Type} {b : Bool} {r : Out α} : ∀ {P : Out α → Prop}, P (guard b r) → ¬ P .bad → b = true ∧ P r := fun {P} h n => by
  unfold guard at h
  split at h
  · exact ⟨by assumption, h⟩
  · exact absurd h n
theorem mulOk_ok {i j : Int} (h : mulOk i j = true) : IntMulOk i j := by
  unfold mulOk at h
  simp only [Bool.or_eq_true, decide_eq_true_eq] at h
  rcases h with (h | h) | h
  · exact .of_left (intBits_le_64 (by omega) (by omega))
  · exact .of_right (intBits_le_64 (by omega) (by omega))
  · intro z
    rw [Bool.and_eq_true] at z
    have z2 := z.2
    unfold Builtin.Int.intTooBig at z2
    have z3 := of_decide_eq_true z2
    have e : bitsLine = 134217728 := by decide
    have b : ∀ k : Int, Builtin.Int.intBits k ≤ k.natAbs.log2 + 1 := fun k => by
      unfold Builtin.Int.intBits
      split <;> omega
    have h1 := b i
    have h2 := b j
    rw [e] at z3
    omega
theorem divOk_ok {i j : Int} (h : divOk j = true) : Builtin.divisionGoesByPylong i j = false := by
  unfold divOk at h
  simp only [Bool.or_eq_true, decide_eq_true_eq] at h
  rcases h with h | h
  · exact PyProof.noPylong_small (by omega)
  · exact PyProof.noPylong_of_log2 h
theorem op_mulA : OpR X (binaryOp .Mult) (rI IntMulOk fun i j => .int (i * j)) := opI fun _ _ _ _ _ _ _ hc q => PyProof.Rows.mul_int q hc
theorem op_fdivA : OpR X (binaryOp .FloorDiv) (rI (fun _ j => j ≠ 0 ∧ divOk j = true) fun i j => .int (i.fdiv j)) := opI fun _ _ _ _ _ _ _ hc q => PyProof.Rows.floordiv_int hc.1 q (.inl (divOk_ok hc.2))
def rBin (K : PySem.W.Frag) : Operator → R2
  | .Add => fun x y H Q => (((∃ i j, x = .int i ∧ y = .int j ∧ Q (.int (i + j)) H) ∨ (∃ i j, x = .str i ∧ y = .str j ∧ i.length + j.length ≤ sizeLine ∧ Q (.str (i ++ j)) H)) ∨ rCatA K x y H Q) ∨ rCat x y H Q
  | .Sub => rI0 fun i j => .int (i - j)
  | .Mult => fun x y H Q => ((rI IntMulOk (fun i j => .int (i * j)) x y H Q ∨ rRep x y H Q) ∨ rRepT K x y H Q) ∨ rRepU K x y H Q
  | .FloorDiv => rI (fun _ j => j ≠ 0 ∧ divOk j = true) fun i j => .int (i.fdiv j)
  | .Mod => rI (fun _ j => j ≠ 0) fun i j => .int (i.fmod j)
  | .Pow => rI CPow fun i j => .int (i ^ j.toNat)
  | _ => fun _ _ _ _ => False
theorem rBin_ok : ∀ op : Operator, OpR X (binaryOp op) (rBin X.K op)
  | .Add => ((OpR.or (op_add (X := X)) op_add_str).or op_catA).or op_cat
  | .Sub => op_sub
  | .Mult => (((op_mulA (X := X)).or op_rep).or op_repT).or op_repU
  | .FloorDiv => op_fdivA
  | .Mod => op_modN
  | .Pow => op_pow
  | .MatMult => fun _ _ _ _ _ _ _ _ _ _ _ _ h => h.elim
  | .Div => fun _ _ _ _ _ _ _ _ _ _ _ _ h => h.elim
  | .LShift => fun _ _ _ _ _ _ _ _ _ _ _ _ h => h.elim
  | .RShift => fun _ _ _ _ _ _ _ _ _ _ _ _ h => h.elim
  | .BitOr => fun _ _ _ _ _ _ _ _ _ _ _ _ h => h.elim
  | .BitXor => fun _ _ _ _ _ _ _ _ _ _ _ _ h => h.elim
  | .BitAnd => fun _ _ _ _ _ _ _ _ _ _ _ _ h => h.elim

end
section
variable {G : Gm} {W Z B : Addr → Prop} {φ : List Addr} {H : Hp} {M : Mem} {Q : VK} {E : XK} {v u : V}
theorem Opd.int {i : Int} (o : Opd G B H (.d (.int i)) v) : v = .int i := by
  cases o with
  | d _ r => cases r; rfl
  | no n => exact absurd rfl (n _)
theorem Opd.bl {i : Bool} (o : Opd G B H (.d (.bl i)) v) : v = .bl i := by
  cases o with
  | d _ r => cases r; rfl
  | no n => exact absurd rfl (n _)
theorem Opd.non (o : Opd G B H (.d .non) v) : v = .non := by
  cases o with
  | d _ r => cases r; rfl
  | no n => exact absurd rfl (n _)
theorem Opd.str {i : Str} (o : Opd G B H (.d (.str i)) v) : v = .str i := by
  cases o with
  | d _ r => cases r; rfl
  | no n => exact absurd rfl (n _)
theorem Opd.tup {xs : List D} (o : Opd G B H (.d (.tup xs)) v) : ∃ p vs, v = .ref p ∧ TupAt G B H p vs ∧ RDs G B H xs vs := by
  cases o with
  | d _ r => cases r with | tup h1 h2 => exact ⟨_, _, rfl, h1, h2⟩
  | no n => exact absurd rfl (n _)
theorem Opd.lst {xs : List D} (o : Opd G B H (.d (.lst xs)) v) : ∃ p vs, v = .ref p ∧ H p = some (.lst vs) ∧ RDs G B H xs vs := by
  cases o with
  | d n r => exact absurd rfl (n xs)
  | l h r => exact ⟨_, _, rfl, h, r⟩
  | no n => exact absurd rfl (n _)
theorem not_bad {r : Out AV} (h : Run G Z φ W H r Q E) (e : r = .bad) : False := by rw [e] at h; exact h
/-- a new tuple -/
theorem Run.tup {xs : List D} {vs : List V} (R : Rel G W Z φ M H) (h : Run G Z φ W H (.ok (.d (.tup xs)) M) Q E) (r : RDs G (Bar W Z) H xs vs) : ∀ p, H p = none → Q (.ref p) (upd H p (.tup vs)) := fun p hp => by
  have x := Ext.laid R (o := .tup vs) hp
  refine h W _ _ (R.laid0 hp) x ?_
  show RD G (Bar W Z) _ _ _
  refine .tup (.inl ⟨upd_same, fun z => z.elim (fun z => R.wt p z hp) fun z => R.zt p z hp⟩) (r.ext x.bar)
theorem binop_run {op : Operator} {a b : AV} (R : Rel G W Z φ M H) (o1 : Opd G (Bar W Z) H a v) (o2 : Opd G (Bar W Z) H b u) (h : Run G Z φ W H (binop op a b M) Q E) : rBin G.K op v u H Q := by
  unfold binop at h
  split at h
  · rw [o1.int, o2.int]; exact .inl (.inl (.inl ⟨_, _, rfl, rfl, Run.ok R h (.int _) (fun _ z => by cases z)⟩))
  · obtain ⟨g, h⟩ := guard_run (P := fun r => Run G Z φ W H r Q E) h (fun z => z)
    rw [o1.str, o2.str]; exact .inl (.inl (.inr ⟨_, _, rfl, rfl, of_decide_eq_true g, Run.ok R h (.str _) (fun _ z => by cases z)⟩))
  · obtain ⟨g, h⟩ := guard_run (P := fun r => Run G Z φ W H r Q E) h (fun z => z)
    obtain ⟨p, vs, rfl, t1, r1⟩ := o1.tup
    obtain ⟨q, us, rfl, t2, r2⟩ := o2.tup
    refine .inl (.inr ⟨p, q, vs, us, rfl, rfl, t1.sq, t2.sq, by rw [← r1.length, ← r2.length]; exact of_decide_eq_true g, fun e => ?_, fun e e2 => ?_, fun _ _ => Run.tup R h (r1.append r2)⟩)
    · subst e
      cases r1
      exact Run.ok R h (.tup t2 r2) (fun _ z => by cases z)
    · subst e2
      cases r2
      rw [List.append_nil] at h
      exact Run.ok R h (.tup t1 r1) (fun _ z => by cases z)
  · obtain ⟨g, h⟩ := guard_run (P := fun r => Run G Z φ W H r Q E) h (fun z => z)
    obtain ⟨p, vs, rfl, t1, r1⟩ := o1.lst
    obtain ⟨q, us, rfl, t2, r2⟩ := o2.lst
    exact .inr ⟨p, q, vs, us, rfl, rfl, t1, t2, by rw [← r1.length, ← r2.length]; exact of_decide_eq_true g, Run.new R h (r1.append r2)⟩
  · rw [o1.int, o2.int]; exact ⟨_, _, rfl, rfl, Run.ok R h (.int _) (fun _ z => by cases z)⟩
  · obtain ⟨g, h⟩ := guard_run (P := fun r => Run G Z φ W H r Q E) h (fun z => z)
    rw [o1.int, o2.int]; exact .inl (.inl (.inl ⟨_, _, rfl, rfl, mulOk_ok g, Run.ok R h (.int _) (fun _ z => by cases z)⟩))
  · obtain ⟨g, h⟩ := guard_run (P := fun r => Run G Z φ W H r Q E) h (fun z => z)
    obtain ⟨p, vs, rfl, t1, r1⟩ := o1.lst
    have g := of_decide_eq_true g
    rw [o2.int]; exact .inl (.inl (.inr ⟨p, _, vs, rfl, rfl, t1, g.1, g.2.1, by rw [← r1.length]; exact g.2.2, Run.new R h (r1.flat_rep _)⟩))
  · rename_i xs j
    obtain ⟨g, h⟩ := guard_run (P := fun r => Run G Z φ W H r Q E) h (fun z => z)
    obtain ⟨p, vs, rfl, t1, r1⟩ := o1.tup
    have g := of_decide_eq_true g
    have ne : vs ≠ [] := fun z => by subst z; cases r1; exact g.1 rfl
    rw [o2.int]
    by_cases h2 : 2 ≤ j
    · exact .inl (.inr ⟨p, _, vs, rfl, rfl, t1.sq, ne, h2, g.2.2.1, by rw [← r1.length]; exact g.2.2.2, Run.tup R h (r1.flat_rep _)⟩)
    · refine .inr ⟨p, _, vs, rfl, rfl, t1.sq, ne, g.2.1, by omega, fun e => ?_, fun e => ?_⟩
      · subst e
        rw [show (List.replicate (1 : Int).toNat xs).flatten = xs by rw [show (1 : Int).toNat = 1 from rfl, List.replicate_one, List.flatten_singleton]] at h
        exact Run.ok R h (.tup t1 r1) (fun _ z => by cases z)
      · rw [show j.toNat = 0 by omega, List.replicate_zero, List.flatten_nil] at h
        exact Run.tup R h .nil
  · rw [o1.int, o2.int]
    split at h
    · rename_i hj
      obtain ⟨g, h⟩ := guard_run (P := fun r => Run G Z φ W H r Q E) h (fun z => z)
      refine ⟨_, _, rfl, rfl, ⟨by omega, g⟩, ?_⟩
      dsimp only
      rw [Int.fdiv_eq_ediv_of_nonneg _ (Int.le_of_lt hj)]
      exact Run.ok R h (.int _) (fun _ z => by cases z)
    · obtain ⟨g, h⟩ := guard_run (P := fun r => Run G Z φ W H r Q E) h (fun z => z)
      rw [Bool.and_eq_true] at g
      exact ⟨_, _, rfl, rfl, ⟨of_decide_eq_true g.1, g.2⟩, Run.ok R h (.int _) (fun _ z => by cases z)⟩
  · rw [o1.int, o2.int]
    split at h
    · rename_i hj
      refine ⟨_, _, rfl, rfl, by omega, ?_⟩
      dsimp only
      rw [Int.fmod_eq_emod_of_nonneg _ (Int.le_of_lt hj)]
      exact Run.ok R h (.int _) (fun _ z => by cases z)
    · obtain ⟨g, h⟩ := guard_run (P := fun r => Run G Z φ W H r Q E) h (fun z => z)
      exact ⟨_, _, rfl, rfl, of_decide_eq_true g, Run.ok R h (.int _) (fun _ z => by cases z)⟩
  · obtain ⟨g, h⟩ := guard_run (P := fun r => Run G Z φ W H r Q E) h (fun z => z)
    have g' := of_decide_eq_true g
    rw [o1.int, o2.int]; exact ⟨_, _, rfl, rfl, g', Run.ok R h (.int _) (fun _ z => by cases z)⟩
  · exact h.elim
end
section
variable {X : Cx} {E : WX} {a b c e : Expr} {f g : SE} {pos : Pos}
theorem ge_bin {op : Operator} (ha : GE X E a f) (hb : GE X E b g) : GE X E (.BinOp a op b pos) (sBin op f g) :=
  ge_two (fun ha hb => pe_op (rBin_ok op) ha hb) ha hb fun W Z φ M H x y v u Q E R r1 r2 h => binop_run R (R.opd r1) (R.opd r2) h
theorem ge_neg (ha : GE X E a f) : GE X E (.UnaryOp .USub a pos) (sNeg f) :=
  ge_one (fun ha => pe_un un_neg ha) ha fun W Z φ M H x v Q E R r1 h => by
    unfold negOp at h
    split at h
    · cases r1; exact ⟨_, rfl, Run.ok R h (.int _) (fun _ z => by cases z)⟩
    · exact h.elim
end
end Mp

namespace Mp
open PySem L2 PyProof.Rows

/-! ## comparisons -/
def D.eqv (a b : D) : Bool := PyData.eqv a.py b.py
def D.ok (a : D) : Bool := a.flat && SeqAt.shaped a.py
def AV.plain : AV → Bool
  | .scr _ => false
  | _ => true
def isNone : AV → Bool
  | .d .non => true
  | _ => false
def D.scal : D → Bool
  | .non => true | .bl _ => true | .int _ => true | .str _ => true | _ => false
def cmpv : CmpOp → Mem → AV → AV → Option Bool
  | .Eq, M, x, y => match look M x, look M y with
    | some a, some b => if a.ok && b.ok then some (D.eqv a b) else none
    | _, _ => none
  | .NotEq, M, x, y => match look M x, look M y with
    | some a, some b => if a.ok && b.ok then some (!D.eqv a b) else none
    | _, _ => none
  | .Lt, _, .d (.int i), .d (.int j) => some (decide (i < j))
  | .LtE, _, .d (.int i), .d (.int j) => some (decide (i ≤ j))
  | .Gt, _, .d (.int i), .d (.int j) => some (decide (j < i))
  | .GtE, _, .d (.int i), .d (.int j) => some (decide (j ≤ i))
  | .Is, _, x, .d .non => some (isNone x)
  | .IsNot, _, x, .d .non => some (!isNone x)
  | .In, M, x, y => match look M x, lstOf M y, tupOf y with
    | some a, some ys, _ => if a.ok && (D.lst ys).ok && y.plain then some (ys.any fun z => D.eqv z a) else none
    | some a, none, some ys => if a.scal && ys.all D.scal then some (ys.any fun z => D.eqv z a) else if a.ok && (D.tup ys).ok && y.plain then some (ys.any fun z => D.eqv z a) else none
    | _, _, _ => none
  | .NotIn, M, x, y => match look M x, lstOf M y, tupOf y with
    | some a, some ys, _ => if a.ok && (D.lst ys).ok && y.plain then some (!ys.any fun z => D.eqv z a) else none
    | some a, none, some ys => if a.scal && ys.all D.scal then some (!ys.any fun z => D.eqv z a) else if a.ok && (D.tup ys).ok && y.plain then some (!ys.any fun z => D.eqv z a) else none
    | _, _, _ => none
  | _, _, _, _ => none
def cmpop (op : CmpOp) (x y : AV) (M : Mem) : Out AV := match cmpv op M x y with
  | some b => .ok (.d (.bl b)) M
  | none => .bad
def sCmp (op : CmpOp) (f g : SE) : SE := sTwo (cmpop op) f g

section
variable {G : Gm} {W Z B : Addr → Prop} {φ : List Addr} {H : Hp} {M : Mem} {Q : VK} {E : XK} {v u : V}
/-- a settled value looked at -/
theorem Rel.look (R : Rel G W Z φ M H) {av : AV} {d : D} (r : SR G (Bar W Z) φ H av v) (h : look M av = some d) (f : d.flat = true) : Dp G.K H v d.py := by
  cases av with
  | d x => cases h; exact RD.dp r f
  | scr ns => cases h
  | fr xs =>
    have e : d = .lst xs := by unfold Mp.look at h; simp [lstOf] at h; exact h.symm
    subst e
    exact RD.dp r f
  | cell i =>
    unfold Mp.look at h
    simp only [Option.map_eq_some_iff] at h
    obtain ⟨xs, e, rfl⟩ := h
    obtain ⟨p, vs, rfl, h1, h2, _⟩ := R.lst r e
    exact .lst h1 (RDs.dp h2 (by simpa [D.flat] using f))
theorem isNone_ok {av : AV} (r : SR G B φ H av v) : decide (v = .non) = isNone av := by
  cases av with
  | d x => cases r <;> simp [isNone]
  | scr ns => obtain ⟨a, rfl, _⟩ := r; simp [isNone]
  | fr xs => cases r; simp [isNone]
  | cell i => obtain ⟨p, _, rfl⟩ := r; simp [isNone]
theorem scal_flatV {d : D} (r : RD G B H d v) (s : d.scal = true) : flatV v = true := by cases r <;> simp_all [D.scal, flatV]
theorem scals_flatV : ∀ {d : List D} {v : List V}, RDs G B H d v → d.all D.scal = true → v.all flatV = true
  | [], _, h, _ => by cases h; rfl
  | _ :: _, _, h, s => by
    simp only [List.all_cons, Bool.and_eq_true] at s ⊢
    cases h with | cons h1 h2 => simp only [List.all_cons, Bool.and_eq_true]; exact ⟨scal_flatV h1 s.1, scals_flatV h2 s.2⟩
theorem scal_eqV {d e : D} (r : RD G B H d v) (q : RD G B H e u) (s : d.scal = true) (t : e.scal = true) : eqV v u = D.eqv d e := by
  cases r <;> simp only [D.scal, Bool.false_eq_true] at s <;> cases q <;> simp only [D.scal, Bool.false_eq_true] at t <;> rfl
theorem scals_inV {d : D} (q : RD G B H d u) (t : d.scal = true) : ∀ {ds : List D} {vs : List V}, RDs G B H ds vs → ds.all D.scal = true → inV u vs = ds.any fun z => D.eqv z d
  | [], _, h, _ => by cases h; rfl
  | _ :: _, _, h, s => by
    simp only [List.all_cons, Bool.and_eq_true] at s
    cases h with
    | cons h1 h2 =>
      have ih := scals_inV q t h2 s.2
      unfold inV at ih ⊢
      rw [List.any_cons, List.any_cons, ih, scal_eqV h1 q s.1 t]
end
def rInT (K : PySem.W.Frag) (neg : Bool) : R2 := fun x y H Q => ∃ d ds, Dp K H x d ∧ Dp K H y (.tuple ds) ∧ SeqAt.shaped d = true ∧ SeqAt.shaped (.tuple ds) = true ∧ Q (.bl (neg != ds.any fun z => PyData.eqv z d)) H
theorem op_inT {X : Cx} (hu : X.A.units + 65 < cLine) : OpR X (compareOp .In) (rInT X.K false) := by
  intro pins s σ H x y v u Q I rx ry h
  obtain ⟨d, ds, hd, he, sd, se, q⟩ := h
  obtain ⟨as, r1⟩ := Dp.reads I d x v hd rx
  obtain ⟨bs, r2⟩ := Dp.reads I (.tuple ds) y u he ry
  refine SeqAt.in_tuple_reads r2 r1 (SeqAt.canLay_of_shaped se) (SeqAt.canLay_of_shaped sd) (room_in_shaped sd hu) ⟨.bl _, H, I, rfl, ?_⟩
  simpa using q
theorem op_notInT {X : Cx} (hu : X.A.units + 65 < cLine) : OpR X (compareOp .NotIn) (rInT X.K true) := by
  intro pins s σ H x y v u Q I rx ry h
  obtain ⟨d, ds, hd, he, sd, se, q⟩ := h
  obtain ⟨as, r1⟩ := Dp.reads I d x v hd rx
  obtain ⟨bs, r2⟩ := Dp.reads I (.tuple ds) y u he ry
  refine SeqAt.notIn_tuple_reads r2 r1 (SeqAt.canLay_of_shaped se) (SeqAt.canLay_of_shaped sd) (room_in_shaped sd hu) ⟨.bl _, H, I, rfl, ?_⟩
  simpa using q
def rCmp (K : PySem.W.Frag) : CmpOp → R2
  | .Eq => rEqD K
  | .NotEq => rNeD K
  | .Lt => rI0 fun i j => .bl (decide (i < j))
  | .LtE => rI0 fun i j => .bl (decide (i ≤ j))
  | .Gt => rI0 fun i j => .bl (decide (j < i))
  | .GtE => rI0 fun i j => .bl (decide (j ≤ i))
  | .Is => fun x y H Q => y = .non ∧ Q (.bl (decide (x = .non))) H
  | .IsNot => fun x y H Q => y = .non ∧ Q (.bl (!decide (x = .non))) H
  | .In => fun x y H Q => (rInD K x y H Q ∨ rIn K false x y H Q) ∨ rInT K false x y H Q
  | .NotIn => fun x y H Q => (rNotInD K x y H Q ∨ rIn K true x y H Q) ∨ rInT K true x y H Q
theorem rCmp_ok {X : Cx} (hu : X.A.units + 65 < cLine) : ∀ op : CmpOp, OpR X (compareOp op) (rCmp X.K op)
  | .Eq => op_eqD (by omega)
  | .NotEq => op_neD (by omega)
  | .Lt => op_lt
  | .LtE => op_le
  | .Gt => op_gt
  | .GtE => op_ge
  | .Is => op_isN
  | .IsNot => op_notN
  | .In => ((op_inD hu).or op_in_seq).or (op_inT hu)
  | .NotIn => ((op_notInD hu).or op_notIn_seq).or (op_notInT hu)
theorem pys_any (a : D) : ∀ ys : List D, ((D.pys ys).any fun z => PyData.eqv z a.py) = ys.any fun z => D.eqv z a
  | [] => rfl
  | y :: ys => by simp only [D.pys, List.any_cons, pys_any a ys]; rfl
theorem cmp_run {G : Gm} {W Z : Addr → Prop} {φ : List Addr} {H : Hp} {M : Mem} {Q : VK} {E : XK} {v u : V} {op : CmpOp} {x y : AV} (R : Rel G W Z φ M H) (r1 : SR G (Bar W Z) φ H x v) (r2 : SR G (Bar W Z) φ H y u)
    (h : Run G Z φ W H (cmpop op x y M) Q E) : rCmp G.K op v u H Q := by
  unfold cmpop at h
  split at h
  · rename_i b e
    have fin : ∀ c, c = b → Q (.bl c) H := fun c z => by subst z; exact Run.ok R h (.bl _) (fun _ z => by cases z)
    clear h
    unfold cmpv at e
    split at e
    · split at e
      · rename_i a c ha hc
        split at e
        · rename_i ok
          cases e
          simp only [D.ok, Bool.and_eq_true] at ok
          exact ⟨_, _, R.look r1 ha ok.1.1, R.look r2 hc ok.2.1, ok.1.2, ok.2.2, fin _ rfl⟩
        · cases e
      · cases e
    · split at e
      · rename_i a c ha hc
        split at e
        · rename_i ok
          cases e
          simp only [D.ok, Bool.and_eq_true] at ok
          exact ⟨_, _, R.look r1 ha ok.1.1, R.look r2 hc ok.2.1, ok.1.2, ok.2.2, fin _ rfl⟩
        · cases e
      · cases e
    · cases e; cases r1; cases r2; exact ⟨_, _, rfl, rfl, fin _ rfl⟩
    · cases e; cases r1; cases r2; exact ⟨_, _, rfl, rfl, fin _ rfl⟩
    · cases e; cases r1; cases r2; exact ⟨_, _, rfl, rfl, fin _ rfl⟩
    · cases e; cases r1; cases r2; exact ⟨_, _, rfl, rfl, fin _ rfl⟩
    · cases e; cases r2; exact ⟨rfl, fin _ (isNone_ok r1)⟩
    · cases e; cases r2; exact ⟨rfl, fin _ (by rw [isNone_ok r1])⟩
    · split at e
      · rename_i a ys ha hy
        split at e
        · rename_i ok
          cases e
          simp only [D.ok, Bool.and_eq_true] at ok
          obtain ⟨⟨⟨o1, o2⟩, o3, o4⟩, o5⟩ := ok
          obtain ⟨p, vs, rfl, h1, h2, h3⟩ := R.lst r2 hy
          refine .inl (.inl ⟨_, _, R.look r1 ha o1, .lst h1 (RDs.dp h2 (by simpa [D.flat] using o3)), o2, o4, fin _ ?_⟩)
          exact pys_any a ys
        · cases e
      · rename_i a ys ha hy ht
        split at e
        · rename_i ok
          cases e
          simp only [Bool.and_eq_true] at ok
          obtain ⟨p, vs, rfl, h1, h2⟩ := tup_met r2 ht
          have ra : RD G (Bar W Z) H a v := by
            cases x with
            | d z => cases ha; exact r1
            | _ => (simp [Mp.look] at ha; try (obtain ⟨_, _, z⟩ := ha; rw [← z] at ok; simp [D.scal] at ok))
          refine .inl (.inr ⟨p, vs, rfl, .inr h1.sq, scal_flatV ra ok.1, scals_flatV h2 ok.2, ?_⟩)
          rw [if_neg Bool.false_ne_true]
          exact fin _ (scals_inV ra ok.1 h2 ok.2)
        · split at e
          · rename_i ok
            cases e
            simp only [D.ok, Bool.and_eq_true] at ok
            obtain ⟨⟨⟨o1, o2⟩, o3, o4⟩, o5⟩ := ok
            obtain ⟨p, vs, rfl, h1, h2⟩ := tup_met r2 ht
            refine .inr ⟨_, _, R.look r1 ha o1, .tup h1.sq (RDs.dp h2 (by simpa [D.flat] using o3)), o2, o4, fin _ ?_⟩
            rw [pys_any a ys]
            simp
          · cases e
      · cases e
    · split at e
      · rename_i a ys ha hy
        split at e
        · rename_i ok
          cases e
          simp only [D.ok, Bool.and_eq_true] at ok
          obtain ⟨⟨⟨o1, o2⟩, o3, o4⟩, o5⟩ := ok
          obtain ⟨p, vs, rfl, h1, h2, h3⟩ := R.lst r2 hy
          refine .inl (.inl ⟨_, _, R.look r1 ha o1, .lst h1 (RDs.dp h2 (by simpa [D.flat] using o3)), o2, o4, fin _ ?_⟩)
          rw [pys_any a ys]
        · cases e
      · rename_i a ys ha hy ht
        split at e
        · rename_i ok
          cases e
          simp only [Bool.and_eq_true] at ok
          obtain ⟨p, vs, rfl, h1, h2⟩ := tup_met r2 ht
          have ra : RD G (Bar W Z) H a v := by
            cases x with
            | d z => cases ha; exact r1
            | _ => (simp [Mp.look] at ha; try (obtain ⟨_, _, z⟩ := ha; rw [← z] at ok; simp [D.scal] at ok))
          refine .inl (.inr ⟨p, vs, rfl, .inr h1.sq, scal_flatV ra ok.1, scals_flatV h2 ok.2, ?_⟩)
          rw [if_pos rfl]
          exact fin _ (by rw [scals_inV ra ok.1 h2 ok.2])
        · split at e
          · rename_i ok
            cases e
            simp only [D.ok, Bool.and_eq_true] at ok
            obtain ⟨⟨⟨o1, o2⟩, o3, o4⟩, o5⟩ := ok
            obtain ⟨p, vs, rfl, h1, h2⟩ := tup_met r2 ht
            refine .inr ⟨_, _, R.look r1 ha o1, .tup h1.sq (RDs.dp h2 (by simpa [D.flat] using o3)), o2, o4, fin _ ?_⟩
            rw [pys_any a ys]
            simp
          · cases e
      · cases e
    · cases e
  · exact h.elim
end Mp

namespace Mp
open PySem L2

/-! ## truth, tests -/
def truth (M : Mem) : AV → Option Bool
  | .d .non => some false
  | .d (.bl b) => some b
  | .d (.int i) => some (i != 0)
  | .d (.str x) => if x.length ≤ sizeLine then some ((x.length : Int) != 0) else none
  | .d (.tup xs) => some (!xs.isEmpty)
  | .d (.fn _) => none
  | a => (lstOf M a).map fun xs => !xs.isEmpty
def bool? : AV → Option Bool
  | .d (.bl b) => some b
  | _ => none
def sB (f : SE) : SB := fun env M => (f env M).bind fun x M1 => match truth M1 x with
  | some b => .ok b M1
  | none => .bad
def sAndB (f g : SB) : SB := fun env M => (f env M).bind fun b M1 => if b = true then g env M1 else .ok false M1
def sOrB (f g : SB) : SB := fun env M => (f env M).bind fun b M1 => if b = true then .ok true M1 else g env M1
def sNotB (f : SB) : SB := fun env M => (f env M).bind fun b M1 => .ok (!b) M1
def sIf (c : SB) (f g : SE) : SE := fun env M => (c env M).bind fun b M1 => if b = true then f env M1 else g env M1
/-- as values: the first one is a bool -/
def sAnd (f g : SE) : SE := fun env M => (f env M).bind fun x M1 => match bool? x with
  | some true => g env M1
  | some false => .ok (.d (.bl false)) M1
  | none => .bad
def sOr (f g : SE) : SE := fun env M => (f env M).bind fun x M1 => match bool? x with
  | some true => .ok (.d (.bl true)) M1
  | some false => g env M1
  | none => .bad
def sNot (f : SE) : SE := fun env M => (f env M).bind fun x M1 => match bool? x with
  | some b => .ok (.d (.bl (!b))) M1
  | none => .bad
/-- a op b op' c -/
def sChain (op op' : CmpOp) (f g k : SE) : SE := fun env M => (f env M).bind fun x M1 => (g env M1).bind fun y M2 => match cmpv op M2 x y with
  | some true => (k env M2).bind fun z M3 => cmpop op' y z M3
  | some false => .ok (.d (.bl false)) M2
  | none => .bad

section
variable {G : Gm} {W W1 Z B : Addr → Prop} {φ : List Addr} {H : Hp} {M : Mem} {Q : VK} {E : XK} {v u : V}
theorem truth_ok (R : Rel G W Z φ M H) {av : AV} {b : Bool} (r : SR G (Bar W Z) φ H av v) (h : truth M av = some b) : TruV G.K v H b := by
  have lst : ∀ xs, lstOf M av = some xs → b = !xs.isEmpty → TruV G.K v H b := fun xs e z => by
    obtain ⟨p, vs, rfl, h1, h2, _⟩ := R.lst r e
    subst z
    refine .inl ⟨vs, h1, ?_⟩
    cases h2 <;> rfl
  unfold truth at h
  split at h
  · cases h; cases r; rfl
  · cases h; cases r; rfl
  · cases h; cases r; rfl
  · split at h
    · cases h; cases r; exact ⟨by assumption, rfl⟩
    · cases h
  · cases h
    cases r with
    | tup h1 h2 =>
      refine .inr (.inl ⟨_, h1.sq, ?_⟩)
      cases h2 <;> rfl
  · cases h
  · obtain ⟨xs, e, z⟩ := Option.map_eq_some_iff.mp h
    exact lst xs e z.symm
theorem bool_ok {av : AV} {b : Bool} (r : SR G B φ H av v) (h : bool? av = some b) : v = .bl b := by
  unfold bool? at h
  split at h
  · cases h; cases r; rfl
  · cases h
theorem RunB.ok {b : Bool} {Q : Bool → Hp → Prop} (R : Rel G W Z φ M H) (h : RunB G Z φ W H (.ok b M) Q E) : Q b H := h W H b R (Ext.refl _ _) rfl
end

section
variable {X : Cx} {E : WX} {a b c e : Expr} {f g k : SE} {p q : SB} {pos : Pos} {rest : List Expr}
theorem gb_truth (ha : GE X E a f) (he : ∀ whole, isTrue a X.env whole = (do let v ← whole; standAt a.pos; holding [v] (truthy v))) : GB X E a (sB f) :=
  PT.imp (pt_truth ha he) fun σ H Q ⟨W, Z, φ, env, M, R, Er, h⟩ => ⟨W, Z, φ, env, M, R, Er, (RunB.bind h).imp fun v H1 ⟨W1, M1, x, _, R1, x1, r1, h2⟩ => by
    cases e : truth M1 x with
    | none => rw [e] at h2; exact h2.elim
    | some b => rw [e] at h2; exact ⟨b, truth_ok R1 r1.sr e, RunB.ok R1 h2⟩⟩
/-- a comparison's value as a test: by two operands -/
theorem ge_cmp {op : CmpOp} (hu : X.A.units + 65 < cLine) (hm : behindInMarks op b = false) (ha : GE X E a f) (hb : GE X E b g) : GE X E (.Compare a [op] [b] pos) (sCmp op f g) :=
  ge_two (fun ha hb => pe_cmpR (rCmp_ok hu op) ha hb hm) ha hb fun W Z φ M H x y v u Q E R r1 r2 h => cmp_run R r1 r2 h
theorem cmp_bool {op : CmpOp} {x y : AV} {M M' : Mem} {av : AV} (h : cmpop op x y M = .ok av M') : M' = M ∧ ∃ b, av = .d (.bl b) := by
  unfold cmpop at h
  split at h
  · cases h; exact ⟨rfl, _, rfl⟩
  · cases h
theorem gb_cmp {op : CmpOp} (hu : X.A.units + 65 < cLine) (hm : behindInMarks op b = false) (ha : GE X E a f) (hb : GE X E b g) : GB X E (.Compare a [op] [b] pos) (sB (sCmp op f g)) :=
  PT.imp (pt_cmpR (rCmp_ok hu op) ha hb hm) fun σ H Q ⟨W, Z, φ, env, M, R, Er, h⟩ => by
    have h' : RunB (gm X) Z φ W H ((f env M).bind fun x M1 => (g env M1).bind fun y M2 => (cmpop op x y M2).bind fun z M3 => match truth M3 z with | some b => .ok b M3 | none => .bad) Q (fun c d H' => E c d σ H') := by
      have e : (sB (sCmp op f g) env M) = ((f env M).bind fun x M1 => (g env M1).bind fun y M2 => (cmpop op x y M2).bind fun z M3 => match truth M3 z with | some b => .ok b M3 | none => .bad) := by
        unfold sB sCmp sTwo
        rw [Out.assoc]
        congr 1
        funext x M1
        rw [Out.assoc]
      rw [← e]; exact h
    exact ⟨W, Z, φ, env, M, R, Er, (RunB.bind h').imp fun v H1 ⟨W1, M1, x, _, R1, x1, r1, h2⟩ =>
      ⟨W1, Z, φ, env, M1, R1, Er.ext x1.bar, (RunB.bind h2).imp fun u H2 ⟨W2, M2, y, _, R2, x2, r2, h4⟩ => by
        refine cmp_run (E := fun _ _ _ => False) (W := W2) (Z := Z) (φ := φ) (M := M2) (x := x) (y := y) R2 (r1.sr.ext x2.bar) r2.sr ?_
        cases e : cmpop op x y M2 with
        | bad => rw [e] at h4; exact h4
        | exc _ _ => unfold cmpop at e; split at e <;> cases e
        | ok av M3 =>
          obtain ⟨rfl, t, rfl⟩ := cmp_bool e
          rw [e] at h4
          intro W' H' v' R' x' r'
          cases r'
          exact ⟨t, rfl, h4 W' H' t R' x' rfl⟩⟩⟩
theorem gb_and (ha : GB X E a p) (hb : GBw X E (.BoolOp .And (b :: rest) pos) q) : GBw X E (.BoolOp .And (a :: b :: rest) pos) (sAndB p q) :=
  PW.imp (pw_and ha hb) fun σ H Q ⟨W, Z, φ, env, M, R, Er, h⟩ => ⟨W, Z, φ, env, M, R, Er, (RunB.bind h).imp fun v H1 ⟨W1, M1, x, _, R1, x1, r1, h2⟩ => by
    subst r1
    cases x with
    | true => exact ⟨W1, Z, φ, env, M1, R1, Er.ext x1.bar, h2⟩
    | false => exact RunB.ok R1 h2⟩
theorem gb_or (ha : GB X E a p) (hb : GBw X E (.BoolOp .Or (b :: rest) pos) q) : GBw X E (.BoolOp .Or (a :: b :: rest) pos) (sOrB p q) :=
  PW.imp (pw_or ha hb) fun σ H Q ⟨W, Z, φ, env, M, R, Er, h⟩ => ⟨W, Z, φ, env, M, R, Er, (RunB.bind h).imp fun v H1 ⟨W1, M1, x, _, R1, x1, r1, h2⟩ => by
    subst r1
    cases x with
    | false => exact ⟨W1, Z, φ, env, M1, R1, Er.ext x1.bar, h2⟩
    | true => exact RunB.ok R1 h2⟩
theorem gb_and1 (ha : GB X E a p) : GBw X E (.BoolOp .And [a] pos) p := pw_and1 ha
theorem gb_or1 (ha : GB X E a p) : GBw X E (.BoolOp .Or [a] pos) p := pw_or1 ha
theorem gb_not (ha : GB X E a p) : GB X E (.UnaryOp .Not a pos) (sNotB p) :=
  PT.imp (pt_not ha) fun σ H Q ⟨W, Z, φ, env, M, R, Er, h⟩ => ⟨W, Z, φ, env, M, R, Er, (RunB.bind h).imp fun v H1 ⟨W1, M1, x, _, R1, x1, r1, h2⟩ => by
    subst r1; exact RunB.ok R1 h2⟩
theorem ge_and (ha : GE X E a f) (hb : GE X E (.BoolOp .And (b :: rest) pos) g) : GE X E (.BoolOp .And (a :: b :: rest) pos) (sAnd f g) :=
  PE.imp (pe_and ha hb) fun σ H Q ⟨W, Z, φ, env, M, R, Er, h⟩ => ⟨W, Z, φ, env, M, R, Er, (Run.bind h).imp fun v H1 ⟨W1, M1, x, _, R1, x1, r1, h2⟩ => by
    cases e : bool? x with
    | none => rw [e] at h2; exact h2.elim
    | some t =>
      refine ⟨t, bool_ok r1.sr e, ?_⟩
      rw [e] at h2
      cases t with
      | true => exact ⟨W1, Z, φ, env, M1, R1, Er.ext x1.bar, h2⟩
      | false => exact Run.ok R1 h2 (.bl _) (fun _ z => by cases z)⟩
theorem ge_or (ha : GE X E a f) (hb : GE X E (.BoolOp .Or (b :: rest) pos) g) : GE X E (.BoolOp .Or (a :: b :: rest) pos) (sOr f g) :=
  PE.imp (pe_or ha hb) fun σ H Q ⟨W, Z, φ, env, M, R, Er, h⟩ => ⟨W, Z, φ, env, M, R, Er, (Run.bind h).imp fun v H1 ⟨W1, M1, x, _, R1, x1, r1, h2⟩ => by
    cases e : bool? x with
    | none => rw [e] at h2; exact h2.elim
    | some t =>
      refine ⟨t, bool_ok r1.sr e, ?_⟩
      rw [e] at h2
      cases t with
      | false => exact ⟨W1, Z, φ, env, M1, R1, Er.ext x1.bar, h2⟩
      | true => exact Run.ok R1 h2 (.bl _) (fun _ z => by cases z)⟩
theorem ge_one1 {op : BoolOp} (ha : GE X E a f) : GE X E (.BoolOp op [a] pos) f := pe_one ha
theorem ge_not (ha : GE X E a f) : GE X E (.UnaryOp .Not a pos) (sNot f) :=
  PE.imp (pe_not ha) fun σ H Q ⟨W, Z, φ, env, M, R, Er, h⟩ => ⟨W, Z, φ, env, M, R, Er, (Run.bind h).imp fun v H1 ⟨W1, M1, x, _, R1, x1, r1, h2⟩ => by
    cases e : bool? x with
    | none => rw [e] at h2; exact h2.elim
    | some t =>
      refine ⟨t, bool_ok r1.sr e, ?_⟩
      rw [e] at h2
      exact Run.ok R1 h2 (.bl _) (fun _ z => by cases z)⟩
theorem ge_if (hc : GB X E c p) (ha : GE X E a f) (hb : GE X E b g) : GE X E (.IfExp c a b pos) (sIf p f g) :=
  PE.imp (pe_ifExp hc ha hb) fun σ H Q ⟨W, Z, φ, env, M, R, Er, h⟩ => ⟨W, Z, φ, env, M, R, Er, (Run.bind h).imp fun v H1 ⟨W1, M1, x, _, R1, x1, r1, h2⟩ => by
    subst r1
    cases x with
    | true => exact ⟨W1, Z, φ, env, M1, R1, Er.ext x1.bar, h2⟩
    | false => exact ⟨W1, Z, φ, env, M1, R1, Er.ext x1.bar, h2⟩⟩
end
end Mp

namespace Mp
open PySem L2

section
variable {X : Cx} {E : WX} {a b c e : Expr} {f g k : SE} {p q : SB} {pos : Pos} {rest : List Expr}
/-- the chain's reading, whatever comes behind it -/
theorem chain_run {G : Gm} {op op' : CmpOp} {W Z : Addr → Prop} {φ : List Addr} {H : Hp} {M : Mem} {env : Env} {σ : St} {Q : VK} {E : WX} (R : Rel G W Z φ M H) (Er : EnvR G (Bar W Z) φ H env σ)
    (h : Run G Z φ W H (sChain op op' f g k env M) Q (fun c d H' => E c d σ H')) : tChain (rCmp G.K op) (rCmp G.K op') (rdE G f E) (rdE G g E) (rdE G k E) σ H Q :=
  ⟨W, Z, φ, env, M, R, Er, (Run.bind h).imp fun v H1 ⟨W1, M1, x, _, R1, x1, r1, h2⟩ =>
    ⟨W1, Z, φ, env, M1, R1, Er.ext x1.bar, (Run.bind h2).imp fun u H2 ⟨W2, M2, y, _, R2, x2, r2, h4⟩ => by
      refine cmp_run (E := fun _ _ _ => False) (W := W2) (Z := Z) (φ := φ) (M := M2) (x := x) (y := y) R2 (r1.sr.ext x2.bar) r2.sr ?_
      unfold cmpop
      cases e : cmpv op M2 x y with
      | none => rw [e] at h4; exact h4
      | some t =>
        rw [e] at h4
        intro W' H' v' R' x' r'
        cases r'
        refine ⟨t, rfl, ?_⟩
        have Er' := (Er.ext x1.bar).ext (x2.trans x').bar
        have r2' := r2.sr.ext x'.bar
        cases t with
        | true =>
          rw [if_pos rfl]
          refine ⟨W', Z, φ, env, M2, R', Er', (Run.bind (Run.later x' h4)).imp fun w H3 ⟨W3, M3, z, _, R3, x3, r3, h5⟩ => ?_⟩
          exact cmp_run R3 (r2'.ext x3.bar) r3.sr h5
        | false =>
          rw [if_neg Bool.false_ne_true]
          exact Run.ok R' (Run.later x' h4) (.bl _) (fun _ z => by cases z)⟩⟩
theorem ge_chain {op op' : CmpOp} (hu : X.A.units + 65 < cLine) (hm : lastMarks [op, op'] [b, c] = false) (ha : GE X E a f) (hb : GE X E b g) (hc : GE X E c k) : GE X E (.Compare a [op, op'] [b, c] pos) (sChain op op' f g k) :=
  PE.imp (pe_chain (rCmp_ok hu op) (rCmp_ok hu op') ha hb hc hm) fun σ H Q ⟨W, Z, φ, env, M, R, Er, h⟩ => chain_run R Er h
theorem chain_bool {op op' : CmpOp} {env : Env} {M M' : Mem} {av : AV} (h : sChain op op' f g k env M = .ok av M') : ∃ b, av = .d (.bl b) := by
  unfold sChain at h
  cases e1 : f env M with
  | bad => rw [e1] at h; cases h
  | exc _ _ => rw [e1] at h; cases h
  | ok x M1 =>
    rw [e1] at h
    replace h : (g env M1).bind _ = _ := h
    cases e2 : g env M1 with
    | bad => rw [e2] at h; cases h
    | exc _ _ => rw [e2] at h; cases h
    | ok y M2 =>
      rw [e2, Out.bind_ok] at h
      cases e3 : cmpv op M2 x y with
      | none => rw [e3] at h; cases h
      | some t =>
        rw [e3] at h
        cases t with
        | false => cases h; exact ⟨_, rfl⟩
        | true =>
          replace h : (k env M2).bind _ = _ := h
          cases e4 : k env M2 with
          | bad => rw [e4] at h; cases h
          | exc _ _ => rw [e4] at h; cases h
          | ok z M3 => rw [e4, Out.bind_ok] at h; exact (cmp_bool h).2
theorem gb_chain {op op' : CmpOp} (hu : X.A.units + 65 < cLine) (hm : lastMarks [op, op'] [b, c] = false) (ha : GE X E a f) (hb : GE X E b g) (hc : GE X E c k) : GB X E (.Compare a [op, op'] [b, c] pos) (sB (sChain op op' f g k)) :=
  PT.imp (pt_chain (rCmp_ok hu op) (rCmp_ok hu op') ha hb hc hm) fun σ H Q ⟨W, Z, φ, env, M, R, Er, h⟩ => by
    refine chain_run R Er ?_
    unfold sB at h
    cases e : sChain op op' f g k env M with
    | bad => rw [e] at h; exact h
    | exc _ _ => rw [e] at h; exact h
    | ok av M' =>
      obtain ⟨t, rfl⟩ := chain_bool e
      rw [e] at h
      intro W' H' v R' x r
      cases r
      exact ⟨t, rfl, h W' H' t R' x rfl⟩
end

/-! ## argument lists -/
def sNil : SL := fun _ M => .ok [] M
def sCons (f : SE) (l : SL) : SL := fun env M => (f env M).bind fun x M1 => (l env M1).bind fun xs M2 => .ok (x.settle :: xs) M2
section
variable {G : Gm} {W W1 Z B : Addr → Prop} {φ : List Addr} {H : Hp} {M M' : Mem} {Q : VK} {E : XK} {v u : V}
theorem RunL.ok {avs : List AV} {vs : List V} {Q : List V → Hp → Prop} (R : Rel G W Z φ M H) (h : RunL G Z φ W H (.ok avs M) Q E) (r : SRs G (Bar W Z) φ H avs vs) : Q vs H := h W H vs R (Ext.refl _ _) r
theorem SRs.length : ∀ {xs : List AV} {vs : List V}, SRs G B φ H xs vs → xs.length = vs.length
  | [], [], _ => rfl
  | [], _ :: _, h => h.elim
  | _ :: _, [], h => h.elim
  | _ :: _, _ :: _, ⟨_, h2⟩ => by simp [SRs.length h2]
/-- a value that is kept: the cell it may be is closed -/
theorem keep_ok (R : Rel G W Z φ M H) {av : AV} {d : D} (r : SR G (Bar W Z) φ H av v) (h : keepD av M = some (d, M')) :
    ∃ W', Rel G W' Z φ M' H ∧ (∀ a, W' a → W a) ∧ RD G (Bar W' Z) H d v := by
  cases av with
  | d x => cases h; exact ⟨W, R, fun _ z => z, r⟩
  | fr xs => cases h; exact ⟨W, R, fun _ z => z, r⟩
  | scr ns => cases h
  | cell i =>
    obtain ⟨p, e, rfl⟩ := r
    unfold keepD at h
    simp only at h
    split at h
    · rename_i xs e2
      cases h
      obtain ⟨wp, vs, h1, h2⟩ := R.cell _ _ _ e e2
      refine ⟨fun a => W a ∧ a ≠ p, ⟨by rw [List.length_set]; exact R.len, R.nd, fun a z => R.wt a z.1, R.zt, R.sep, fun j q c e3 e4 => ?_⟩, fun _ z => z.1, ?_⟩
      · have hj : j ≠ i := fun z => by
          subst z
          rw [List.getElem?_set_self (by rw [← R.len]; exact (List.getElem?_eq_some_iff.mp e3).1)] at e4
          cases e4
        rw [List.getElem?_set_ne (Ne.symm hj)] at e4
        obtain ⟨w, r⟩ := R.cell j q c e3 e4
        have hq : q ≠ p := fun z => by
          subst z
          obtain ⟨l1, g1⟩ := List.getElem?_eq_some_iff.mp e3
          obtain ⟨l2, g2⟩ := List.getElem?_eq_some_iff.mp e
          exact hj ((List.getElem_inj R.nd).mp (g1.trans g2.symm))
        exact ⟨⟨w, hq⟩, r.ext (Ext.less fun a z => z.imp (fun z => z.1) id) rfl⟩
      · refine .lst ⟨h1, fun z => z.elim (fun z => z.2 rfl) fun z => ?_⟩ (h2.less fun a z => z.imp (fun z => z.1) id)
        exact (R.sep i p e).2 z
    · cases h
theorem keeps_ok : ∀ {avs : List AV} {vs : List V} {ds : List D} {W : Addr → Prop} {M M' : Mem}, Rel G W Z φ M H → SRs G (Bar W Z) φ H avs vs → keepDs avs M = some (ds, M') →
    ∃ W', Rel G W' Z φ M' H ∧ (∀ a, W' a → W a) ∧ RDs G (Bar W' Z) H ds vs
  | [], [], _, W, _, _, R, _, h => by cases h; exact ⟨W, R, fun _ z => z, .nil⟩
  | [], _ :: _, _, _, _, _, _, r, _ => r.elim
  | _ :: _, [], _, _, _, _, _, r, _ => r.elim
  | a :: r, v :: vs, ds, W, M, M', R, ⟨r1, r2⟩, h => by
    unfold keepDs at h
    split at h
    · cases h
    · rename_i x M1 e1
      obtain ⟨W1, R1, l1, d1⟩ := keep_ok R r1 e1
      split at h
      · cases h
      · rename_i xs M2 e2
        cases h
        obtain ⟨W2, R2, l2, d2⟩ := keeps_ok R1 (r2.ext (Ext.bar (Ext.less l1))) e2
        exact ⟨W2, R2, fun a z => l1 a (l2 a z), .cons (d1.ext (Ext.bar (Ext.less l2))) d2⟩
end
/-! ## displays, calls -/
def sTup (l : SL) : SE := fun env M => (l env M).bind fun avs M1 => match keepDs avs M1 with
  | some (xs, M2) => guard (decide (xs.length ≤ sizeLine)) (.ok (.d (.tup xs)) M2)
  | none => .bad
def sLst (l : SL) : SE := fun env M => (l env M).bind fun avs M1 => match keepDs avs M1 with
  | some (xs, M2) => guard (decide (xs.length ≤ sizeLine)) (.ok (.fr xs) M2)
  | none => .bad
def sArgs (op : List AV → Mem → Out AV) (l : SL) : SE := fun env M => (l env M).bind fun avs M1 => op avs M1
section
variable {G : Gm} {W W1 Z B : Addr → Prop} {φ : List Addr} {H : Hp} {M M' : Mem} {Q : VK} {E : XK} {v u : V}
theorem Run.less {r : Out AV} (h : Run G Z φ W H r Q E) (l : ∀ a, W1 a → W a) : Run G Z φ W1 H r Q E := Run.later (Ext.less l) h
end
section
variable {X : Cx} {E : WX} {a b c e : Expr} {es : List Expr} {f g k : SE} {l : SL} {p q : SB} {pos : Pos} {rest : List Expr}
theorem gl_nil : GL X E [] sNil := PA.imp pa_nil fun σ H Q ⟨W, Z, φ, env, M, R, Er, h⟩ => RunL.ok R h trivial
theorem gl_cons (hs : starEach (e :: es) X.env = (false, eval e X.env) :: starEach es X.env) (he : GE X E e f) (hl : GL X E es l) : GL X E (e :: es) (sCons f l) :=
  PA.imp (pa_cons he hl hs) fun σ H Q ⟨W, Z, φ, env, M, R, Er, h⟩ => ⟨W, Z, φ, env, M, R, Er, (RunL.bind h).imp fun v H1 ⟨W1, M1, x, _, R1, x1, r1, h2⟩ =>
    ⟨W1, Z, φ, env, M1, R1, Er.ext x1.bar, (RunL.bind h2).imp fun vs H2 ⟨W2, M2, xs, _, R2, x2, r2, h3⟩ => RunL.ok R2 h3 ⟨(r1.sr.settle).ext x2.bar, r2⟩⟩⟩
theorem ge_tup {k : Nat} (h : GL X E es l) : GE X E (.Tuple es k pos) (sTup l) :=
  PE.imp (pe_tup h) fun σ H Q ⟨W, Z, φ, env, M, R, Er, h⟩ => ⟨W, Z, φ, env, M, R, Er, (Run.bind h).imp fun vs H1 ⟨W1, M1, avs, _, R1, x1, r1, h2⟩ => by
    cases e : keepDs avs M1 with
    | none => rw [e] at h2; exact h2.elim
    | some t =>
      obtain ⟨xs, M2⟩ := t
      rw [e] at h2
      obtain ⟨g, h2⟩ := guard_run (P := fun r => Run (gm X) Z φ W1 H1 r Q _) h2 (fun z => z)
      obtain ⟨W2, R2, l2, d2⟩ := keeps_ok R1 r1 e
      exact ⟨by rw [← d2.length]; exact of_decide_eq_true g, Run.tup R2 (Run.less h2 l2) d2⟩⟩
theorem ge_lst (h : GL X E es l) : GE X E (.List es pos) (sLst l) :=
  PE.imp (pe_lst h) fun σ H Q ⟨W, Z, φ, env, M, R, Er, h⟩ => ⟨W, Z, φ, env, M, R, Er, (Run.bind h).imp fun vs H1 ⟨W1, M1, avs, _, R1, x1, r1, h2⟩ => by
    cases e : keepDs avs M1 with
    | none => rw [e] at h2; exact h2.elim
    | some t =>
      obtain ⟨xs, M2⟩ := t
      rw [e] at h2
      obtain ⟨g, h2⟩ := guard_run (P := fun r => Run (gm X) Z φ W1 H1 r Q _) h2 (fun z => z)
      obtain ⟨W2, R2, l2, d2⟩ := keeps_ok R1 r1 e
      exact ⟨by rw [← d2.length]; exact of_decide_eq_true g, Run.new R2 (Run.less h2 l2) d2⟩⟩
/-- what a call by values asks -/
def rCall (X : Cx) (op : List AV → Mem → Out AV) : List V → Hp → VK → Prop := fun vs H Q => ∃ W Z φ M avs, Rel (gm X) W Z φ M H ∧ SRs (gm X) (Bar W Z) φ H avs vs ∧ Run (gm X) Z φ W H (op avs M) Q fun _ _ _ => False
/-- a built-in that raises nothing -/
theorem ge_bi {op : List AV → Mem → Out AV} {r : List V → Hp → VK → Prop} (hp : ∀ {t : TA}, PA X es t → PE X e (tCB r t)) (hl : GL X E es l)
    (hr : ∀ W Z φ M H avs vs Q E, Rel (gm X) W Z φ M H → SRs (gm X) (Bar W Z) φ H avs vs → Run (gm X) Z φ W H (op avs M) Q E → r vs H Q) : GE X E e (sArgs op l) :=
  PE.imp (hp hl) fun σ H Q ⟨W, Z, φ, env, M, R, Er, h⟩ => ⟨W, Z, φ, env, M, R, Er, (Run.bind h).imp fun vs H1 ⟨W1, M1, avs, _, R1, x1, r1, h2⟩ => hr _ _ _ _ _ _ _ _ _ R1 r1 h2⟩
end

/-! ## subscripts, slices -/
def idx (x y : AV) (M : Mem) : Out AV := match y with
  | .d (.int i) => match lstOf M x, x with
    | some xs, _ => match atI xs i with
      | some d => .ok (.d d) M
      | none => .bad
    | none, .d (.tup xs) => match atI xs i with
      | some d => .ok (.d d) M
      | none => .bad
    | none, .d (.str z) => match decide (z.length ≤ sizeLine), atI z.cps.toList i with
      | true, some c => .ok (.d (.str ⟨#[c]⟩)) M
      | _, _ => .bad
    | _, _ => .bad
  | _ => .bad
def sIdx (f g : SE) : SE := sTwo idx f g
theorem RDs.atI {G : Gm} {B : Addr → Prop} {H : Hp} {xs : List D} {vs : List V} {i : Int} {d : D} (r : RDs G B H xs vs) (h : atI xs i = some d) : ∃ v, L2.atI vs i = some v ∧ RD G B H d v := by
  unfold L2.atI at h ⊢
  rw [← r.length]
  cases e : ixN xs.length i with
  | none => rw [e] at h; cases h
  | some j =>
    rw [e] at h
    obtain ⟨v, e1, r1⟩ := r.get (i := j) h
    exact ⟨v, e1, r1⟩
section
variable {X : Cx} {E : WX} {a b c e : Expr} {es : List Expr} {f g k : SE} {l : SL} {pos : Pos}
theorem ge_idx (hs : PlainIx b) (ha : GE X E a f) (hb : GE X E b g) : GE X E (.Subscript a b pos) (sIdx f g) :=
  ge_two (fun ha hb => pe_ix ix_seq ha hb hs) ha hb fun W Z φ M H x y v u Q E R r1 r2 h => by
    unfold idx at h
    split at h
    · rename_i i
      cases r2
      split at h
      · rename_i xs e
        obtain ⟨p, vs, rfl, h1, h2, _⟩ := R.lst r1 e
        split at h
        · rename_i d e1
          obtain ⟨w, e2, r3⟩ := h2.atI e1
          exact .inl ⟨p, vs, i, w, rfl, rfl, h1, e2, Run.ok R h r3 (fun _ z => by cases z)⟩
        · exact h.elim
      · split at h
        · rename_i d e1
          cases r1 with
          | tup h1 h2 =>
            obtain ⟨w, e2, r3⟩ := h2.atI e1
            exact .inr (.inl ⟨_, _, i, w, rfl, rfl, h1.sq, e2, Run.ok R h r3 (fun _ z => by cases z)⟩)
        · exact h.elim
      · split at h
        · rename_i c e1 e2
          cases r1
          exact .inr (.inr ⟨_, i, c, rfl, rfl, of_decide_eq_true e1, e2, Run.ok R h (.str _) (fun _ z => by cases z)⟩)
        · exact h.elim
      · exact h.elim
    · exact h.elim
/-- an end of a slice -/
def sPart (o : Option SE) (env : Env) (M : Mem) : Out (Option Int) := match o with
  | none => .ok none M
  | some f => (f env M).bind fun x M1 => match x with
    | .d (.int i) => .ok (some i) M1
    | _ => .bad
def cutG {α : Type} (xs : List α) (lo hi : Option Int) : List α := (xs.drop (HT.sIx xs.length 0 lo)).take (HT.sIx xs.length xs.length hi - HT.sIx xs.length 0 lo)
def cutop (x : AV) (lo hi : Option Int) (M : Mem) : Out AV := match lstOf M x, x with
  | some xs, _ => .ok (.fr (cutG xs lo hi)) M
  | none, .d (.tup xs) => .ok (.d (.tup (cutG xs lo hi))) M
  | none, .d (.str z) => guard (decide (z.length ≤ sizeLine)) (.ok (.d (.str (cutS z lo hi))) M)
  | _, _ => .bad
def sSlice (f : SE) (lo hi : Option SE) : SE := fun env M => (f env M).bind fun x M1 => (sPart lo env M1).bind fun i M2 => (sPart hi env M2).bind fun j M3 => cutop x i j M3
theorem po_part {o : Option Expr} {t : TO} {fo : Option SE} (hN : o = none → fo = none ∧ t = tNoPart) (hS : ∀ e, o = some e → ∃ f, fo = some f ∧ t = tPart (rdE (gm X) f E))
    {W Z : Addr → Prop} {φ : List Addr} {H : Hp} {M : Mem} {env : Env} {σ : St} {Q : VK} {kk : Option Int → Mem → Out AV} (R : Rel (gm X) W Z φ M H) (Er : EnvR (gm X) (Bar W Z) φ H env σ)
    (h : Run (gm X) Z φ W H ((sPart fo env M).bind kk) Q (fun c d H' => E c d σ H')) {P : Option Int → Hp → Prop}
    (hP : ∀ i W1 M1 H1, Rel (gm X) W1 Z φ M1 H1 → Ext W H W1 H1 → Run (gm X) Z φ W1 H1 (kk i M1) Q (fun c d H' => E c d σ H') → P i H1) : t σ H P := by
  cases o with
  | none =>
    obtain ⟨rfl, rfl⟩ := hN rfl
    exact hP none W M H R (Ext.refl _ _) h
  | some e =>
    obtain ⟨f, rfl, rfl⟩ := hS e rfl
    have h' : Run (gm X) Z φ W H ((f env M).bind fun x M1 => (match x with | .d (.int i) => Out.ok (some i) M1 | _ => .bad).bind kk) Q (fun c d H' => E c d σ H') := by
      rw [← Out.assoc]; exact h
    refine ⟨W, Z, φ, env, M, R, Er, (Run.bind h').imp fun v H1 ⟨W1, M1, x, _, R1, x1, r1, h2⟩ => ?_⟩
    cases x with
    | d y =>
      cases y with
      | int i => cases r1; exact ⟨i, rfl, hP _ _ _ _ R1 x1 h2⟩
      | _ => exact h2.elim
    | _ => exact h2.elim
theorem cut_run {W Z : Addr → Prop} {φ : List Addr} {H : Hp} {M : Mem} {Q : VK} {E : XK} {x : AV} {v : V} {lo hi : Option Int} {G : Gm} (R : Rel G W Z φ M H) (r : SR G (Bar W Z) φ H x v) (h : Run G Z φ W H (cutop x lo hi M) Q E) :
    (rSlL G.K v lo hi H Q ∨ rSlA G.K v lo hi H Q) ∨ rSlS v lo hi H Q := by
  unfold cutop at h
  split at h
  · rename_i xs e
    obtain ⟨p, vs, rfl, h1, h2, _⟩ := R.lst r e
    refine .inl (.inl ⟨p, vs, rfl, h1, Run.new R h ?_⟩)
    have l := h2.length
    unfold cutG
    rw [l]
    exact (h2.drop _).take _
  · rename_i xs _
    cases r with
    | tup h1 h2 =>
      rename_i p vs
      have l := h2.length
      refine .inl (.inr ⟨p, vs, rfl, h1.sq, fun z => ?_, fun _ => Run.tup R h ?_⟩)
      · have e : cutG xs lo hi = xs := by
          unfold cutG
          rw [l, z.1, z.2, ← l, List.drop_zero, Nat.sub_zero, List.take_length]
        rw [e] at h
        exact Run.ok R h (.tup h1 h2) (fun _ z => by cases z)
      · unfold cutG
        rw [l]
        exact (h2.drop _).take _
  · obtain ⟨g, h⟩ := guard_run (P := fun r => Run G Z φ W H r Q E) h (fun z => z)
    cases r
    exact .inr ⟨_, rfl, of_decide_eq_true g, Run.ok R h (.str _) (fun _ z => by cases z)⟩
  · exact h.elim
theorem ge_slice {lo hi : Option Expr} {tl th : TO} {fl fh : Option SE} {p2 : Pos} (ha : GE X E a f) (hl : PO X lo tl) (hh : PO X hi th)
    (hN : lo = none → fl = none ∧ tl = tNoPart) (hS : ∀ e, lo = some e → ∃ f, fl = some f ∧ tl = tPart (rdE (gm X) f E))
    (hN' : hi = none → fh = none ∧ th = tNoPart) (hS' : ∀ e, hi = some e → ∃ f, fh = some f ∧ th = tPart (rdE (gm X) f E)) : GE X E (.Subscript a (.Slice lo hi none p2) pos) (sSlice f fl fh) :=
  PE.imp (pe_slice ((sl_list (X := X)).or sl_tupA |>.or sl_str) ha hl hh) fun σ H Q ⟨W, Z, φ, env, M, R, Er, h⟩ => ⟨W, Z, φ, env, M, R, Er, (Run.bind h).imp fun v H1 ⟨W1, M1, x, _, R1, x1, r1, h2⟩ =>
    po_part hN hS R1 (Er.ext x1.bar) h2 fun i W2 M2 H2 R2 x2 h3 => po_part hN' hS' R2 ((Er.ext x1.bar).ext x2.bar) h3 fun j W3 M3 H3 R3 x3 h4 => cut_run R3 ((r1.sr.ext x2.bar).ext x3.bar) h4⟩
end
end Mp

namespace Mp
open PySem L2

/-! ## built-in functions -/
def ints? : List D → Option (List Int)
  | [] => some []
  | .int i :: r => (ints? r).map (i :: ·)
  | _ :: _ => none
def bools? : List D → Option (List Bool)
  | [] => some []
  | .bl b :: r => (bools? r).map (b :: ·)
  | _ :: _ => none
theorem ints_ok : ∀ {ds : List D} {ns : List Int}, ints? ds = some ns → ds = ns.map D.int
  | [], _, h => by cases h; rfl
  | d :: r, ns, h => by
    cases d <;> simp only [ints?, Option.map_eq_some_iff] at h <;> try (cases h; done)
    obtain ⟨ms, e, rfl⟩ := h
    rw [ints_ok e]; rfl
theorem bools_ok : ∀ {ds : List D} {ns : List Bool}, bools? ds = some ns → ds = ns.map D.bl
  | [], _, h => by cases h; rfl
  | d :: r, ns, h => by
    cases d <;> simp only [bools?, Option.map_eq_some_iff] at h <;> try (cases h; done)
    obtain ⟨ms, e, rfl⟩ := h
    rw [bools_ok e]; rfl
theorem ints_map : ∀ ns : List Int, ints? (ns.map D.int) = some ns
  | [] => rfl
  | n :: r => by simp only [List.map_cons, ints?, ints_map r, Option.map_some]
theorem bools_map : ∀ ns : List Bool, bools? (ns.map D.bl) = some ns
  | [] => rfl
  | n :: r => by simp only [List.map_cons, bools?, bools_map r, Option.map_some]
def maxL : Int → List Int → Int
  | m, [] => m
  | m, x :: r => maxL (max m x) r
def minL : Int → List Int → Int
  | m, [] => m
  | m, x :: r => minL (min m x) r
theorem maxL_ge : ∀ (r : List Int) (m : Int), m ≤ maxL m r ∧ ∀ y ∈ r, y ≤ maxL m r
  | [], m => ⟨Int.le_refl _, fun _ h => by cases h⟩
  | x :: r, m => by
    obtain ⟨h1, h2⟩ := maxL_ge r (max m x)
    refine ⟨by show m ≤ maxL (max m x) r; omega, fun y hy => ?_⟩
    show y ≤ maxL (max m x) r
    rcases List.mem_cons.mp hy with rfl | hy
    · omega
    · exact h2 y hy
theorem maxL_mem : ∀ (r : List Int) (m : Int), maxL m r ∈ m :: r
  | [], m => by simp [maxL]
  | x :: r, m => by
    have h := maxL_mem r (max m x)
    show maxL (max m x) r ∈ _
    rcases List.mem_cons.mp h with h | h
    · rw [h]
      by_cases q : m ≤ x
      · rw [Int.max_eq_right q]; simp
      · rw [Int.max_eq_left (by omega)]; simp
    · exact .tail _ (.tail _ h)
theorem minL_le : ∀ (r : List Int) (m : Int), minL m r ≤ m ∧ ∀ y ∈ r, minL m r ≤ y
  | [], m => ⟨Int.le_refl _, fun _ h => by cases h⟩
  | x :: r, m => by
    obtain ⟨h1, h2⟩ := minL_le r (min m x)
    refine ⟨by show minL (min m x) r ≤ m; omega, fun y hy => ?_⟩
    show minL (min m x) r ≤ y
    rcases List.mem_cons.mp hy with rfl | hy
    · omega
    · exact h2 y hy
theorem minL_mem : ∀ (r : List Int) (m : Int), minL m r ∈ m :: r
  | [], m => by simp [minL]
  | x :: r, m => by
    have h := minL_mem r (min m x)
    show minL (min m x) r ∈ _
    rcases List.mem_cons.mp h with h | h
    · rw [h]
      by_cases q : m ≤ x
      · rw [Int.min_eq_left q]; simp
      · rw [Int.min_eq_right (by omega)]; simp
    · exact .tail _ (.tail _ h)
def sortI (ns : List Int) : List Int := ns.mergeSort (fun a b => decide (a ≤ b))
theorem sortI_perm (ns : List Int) : (sortI ns).Perm ns := List.mergeSort_perm _ _
theorem sortI_sorted (ns : List Int) : (sortI ns).Pairwise (· ≤ ·) := by
  have h := List.pairwise_mergeSort (le := fun a b : Int => decide (a ≤ b)) (fun a b c h1 h2 => by simp at *; omega) (fun a b => by simp; omega) ns
  exact h.imp fun h => by simpa using h
theorem sorted_unique : ∀ {xs ys : List Int}, xs.Perm ys → xs.Pairwise (· ≤ ·) → ys.Pairwise (· ≤ ·) → xs = ys := fun {xs ys} p h1 h2 =>
  List.Perm.eq_of_pairwise (fun a b _ _ h h' => Int.le_antisymm h h') h1 h2 p

def lenOp : List AV → Mem → Out AV
  | [a], M => match lstOf M a, a with
    | some xs, _ => .ok (.d (.int xs.length)) M
    | none, .d (.tup xs) => .ok (.d (.int xs.length)) M
    | none, .d (.str z) => guard (decide (z.length ≤ sizeLine)) (.ok (.d (.int z.length)) M)
    | _, _ => .bad
  | _, _ => .bad
def boolsOp (f : List Bool → Bool) : List AV → Mem → Out AV
  | [a], M => match (lstOf M a).bind bools? with
    | some bs => .ok (.d (.bl (f bs))) M
    | none => .bad
  | _, _ => .bad
def allOp := boolsOp fun bs => bs.all id
def anyOp := boolsOp fun bs => bs.any id
def sumOp : List AV → Mem → Out AV
  | [a], M => match (lstOf M a).bind ints? with
    | some ns => .ok (.d (.int ns.sum)) M
    | none => .bad
  | _, _ => .bad
def maxOp : List AV → Mem → Out AV
  | [a], M => match (lstOf M a).bind ints? with
    | some (m :: ns) => .ok (.d (.int (maxL m ns))) M
    | _ => .bad
  | [.d (.int i), .d (.int j)], M => .ok (.d (.int (max i j))) M
  | _, _ => .bad
def minOp : List AV → Mem → Out AV
  | [a], M => match (lstOf M a).bind ints? with
    | some (m :: ns) => .ok (.d (.int (minL m ns))) M
    | _ => .bad
  | [.d (.int i), .d (.int j)], M => .ok (.d (.int (min i j))) M
  | _, _ => .bad
def absOp : List AV → Mem → Out AV
  | [.d (.int i)], M => .ok (.d (.int i.natAbs)) M
  | _, _ => .bad
def intOp : List AV → Mem → Out AV
  | [.d (.int i)], M => .ok (.d (.int i)) M
  | [.d (.bl b)], M => .ok (.d (.int (if b = true then 1 else 0))) M
  | _, _ => .bad
def tupleOp : List AV → Mem → Out AV
  | [a], M => match lstOf M a, a with
    | some xs, _ => .ok (.d (.tup xs)) M
    | none, .d (.tup xs) => .ok (.d (.tup xs)) M
    | _, _ => .bad
  | _, _ => .bad
def listOp : List AV → Mem → Out AV
  | [a], M => match lstOf M a, a with
    | some xs, _ => .ok (.fr xs) M
    | none, .d (.tup xs) => .ok (.fr xs) M
    | _, _ => .bad
  | _, _ => .bad
def sortedOp : List AV → Mem → Out AV
  | [a], M => match (lstOf M a).bind ints? with
    | some ns => .ok (.fr ((sortI ns).map D.int)) M
    | none => .bad
  | _, _ => .bad
def strOp : List AV → Mem → Out AV
  | [.d (.int i)], M => guard (decide (i.natAbs.log2 < 1920)) (.ok (.d (.str (toString i))) M)
  | [.d (.str x)], M => .ok (.d (.str x)) M
  | _, _ => .bad

section
variable {G : Gm} {W Z B : Addr → Prop} {φ : List Addr} {H : Hp} {M : Mem} {Q : VK} {E : XK} {v u : V} {avs : List AV} {vs : List V}
theorem SRs.one {a : AV} (r : SRs G B φ H [a] vs) : ∃ v, vs = [v] ∧ SR G B φ H a v := by
  match vs, r with
  | [v], ⟨h, _⟩ => exact ⟨v, rfl, h⟩
theorem SRs.two {a b : AV} (r : SRs G B φ H [a, b] vs) : ∃ v u, vs = [v, u] ∧ SR G B φ H a v ∧ SR G B φ H b u := by
  match vs, r with
  | [v, u], ⟨h, h2, _⟩ => exact ⟨v, u, rfl, h, h2⟩
theorem Rel.ints (R : Rel G W Z φ M H) {av : AV} {ns : List Int} (r : SR G (Bar W Z) φ H av v) (h : (lstOf M av).bind ints? = some ns) : ∃ p, v = .ref p ∧ SqL G.K H p (ns.map V.int) := by
  obtain ⟨xs, e, h⟩ := Option.bind_eq_some_iff.mp h
  obtain ⟨p, vs, rfl, h1, h2, _⟩ := R.lst r e
  rw [ints_ok h] at h2
  rw [h2.ints] at h1
  exact ⟨p, rfl, h1⟩
theorem Rel.bools (R : Rel G W Z φ M H) {av : AV} {ns : List Bool} (r : SR G (Bar W Z) φ H av v) (h : (lstOf M av).bind bools? = some ns) : ∃ p, v = .ref p ∧ SqL G.K H p (ns.map V.bl) := by
  obtain ⟨xs, e, h⟩ := Option.bind_eq_some_iff.mp h
  obtain ⟨p, vs, rfl, h1, h2, _⟩ := R.lst r e
  rw [bools_ok h] at h2
  rw [h2.bls] at h1
  exact ⟨p, rfl, h1⟩
abbrev NotFr (a : AV) : Prop := ∀ xs, a ≠ .fr xs
theorem len_run (R : Rel G W Z φ M H) (r : SRs G (Bar W Z) φ H avs vs) (h : Run G Z φ W H (lenOp avs M) Q E) :
    (∃ p ys, vs = [.ref p] ∧ (SqL G.K H p ys ∨ SqT G.K H p ys) ∧ Q (.int ys.length) H) ∨ (∃ z, vs = [.str z] ∧ z.length ≤ sizeLine ∧ Q (.int z.length) H) := by
  unfold lenOp at h
  split at h
  · obtain ⟨v, rfl, r1⟩ := r.one
    split at h
    · rename_i xs e
      obtain ⟨p, ys, rfl, h1, h2, _⟩ := R.lst r1 e
      refine .inl ⟨p, ys, rfl, .inl h1, ?_⟩
      rw [← h2.length]
      exact Run.ok R h (.int _) (fun _ z => by cases z)
    · cases r1 with
      | tup h1 h2 =>
        refine .inl ⟨_, _, rfl, .inr h1.sq, ?_⟩
        rw [← h2.length]
        exact Run.ok R h (.int _) (fun _ z => by cases z)
    · obtain ⟨g, h⟩ := guard_run (P := fun r => Run G Z φ W H r Q E) h (fun z => z)
      cases r1
      exact .inr ⟨_, rfl, of_decide_eq_true g, Run.ok R h (.int _) (fun _ z => by cases z)⟩
    · exact h.elim
  · exact h.elim
theorem all_run (R : Rel G W Z φ M H) (r : SRs G (Bar W Z) φ H avs vs) (h : Run G Z φ W H (allOp avs M) Q E) : rAll G.K vs H Q := by
  unfold allOp boolsOp at h
  split at h
  · obtain ⟨v, rfl, r1⟩ := r.one
    split at h
    · rename_i bs e
      obtain ⟨p, rfl, h1⟩ := R.bools r1 e
      exact ⟨p, bs, rfl, h1, Run.ok R h (.bl _) (fun _ z => by cases z)⟩
    · exact h.elim
  · exact h.elim
theorem any_run (R : Rel G W Z φ M H) (r : SRs G (Bar W Z) φ H avs vs) (h : Run G Z φ W H (anyOp avs M) Q E) : rAny G.K vs H Q := by
  unfold anyOp boolsOp at h
  split at h
  · obtain ⟨v, rfl, r1⟩ := r.one
    split at h
    · rename_i bs e
      obtain ⟨p, rfl, h1⟩ := R.bools r1 e
      exact ⟨p, bs, rfl, h1, Run.ok R h (.bl _) (fun _ z => by cases z)⟩
    · exact h.elim
  · exact h.elim
theorem sum_run (R : Rel G W Z φ M H) (r : SRs G (Bar W Z) φ H avs vs) (h : Run G Z φ W H (sumOp avs M) Q E) : rSum G.K vs H Q := by
  unfold sumOp at h
  split at h
  · obtain ⟨v, rfl, r1⟩ := r.one
    split at h
    · rename_i bs e
      obtain ⟨p, rfl, h1⟩ := R.ints r1 e
      exact ⟨p, bs, rfl, h1, Run.ok R h (.int _) (fun _ z => by cases z)⟩
    · exact h.elim
  · exact h.elim
theorem max_run (R : Rel G W Z φ M H) (r : SRs G (Bar W Z) φ H avs vs) (h : Run G Z φ W H (maxOp avs M) Q E) : rMax G.K vs H Q ∨ ∃ i j, vs = [.int i, .int j] ∧ Q (.int (if j > i then j else i)) H := by
  unfold maxOp at h
  split at h
  · obtain ⟨v, rfl, r1⟩ := r.one
    split at h
    · rename_i m ns e
      obtain ⟨p, rfl, h1⟩ := R.ints r1 e
      refine .inl ⟨p, _, rfl, h1, by simp, fun k hk hle => ?_⟩
      have e : k = maxL m ns := by
        have h1 := maxL_ge ns m
        have h2 := hle _ (maxL_mem ns m)
        rcases List.mem_cons.mp hk with rfl | hk
        · omega
        · have := h1.2 k hk; omega
      subst e
      exact Run.ok R h (.int _) (fun _ z => by cases z)
    · exact h.elim
  · obtain ⟨v, u, rfl, r1, r2⟩ := r.two
    cases r1; cases r2
    refine .inr ⟨_, _, rfl, ?_⟩
    have e : ∀ i j : Int, (if j > i then j else i) = max i j := fun i j => by split <;> omega
    rw [e]
    exact Run.ok R h (.int _) (fun _ z => by cases z)
  · exact h.elim
theorem min_run (R : Rel G W Z φ M H) (r : SRs G (Bar W Z) φ H avs vs) (h : Run G Z φ W H (minOp avs M) Q E) : rMin G.K vs H Q ∨ ∃ i j, vs = [.int i, .int j] ∧ Q (.int (if j < i then j else i)) H := by
  unfold minOp at h
  split at h
  · obtain ⟨v, rfl, r1⟩ := r.one
    split at h
    · rename_i m ns e
      obtain ⟨p, rfl, h1⟩ := R.ints r1 e
      refine .inl ⟨p, _, rfl, h1, by simp, fun k hk hle => ?_⟩
      have e : k = minL m ns := by
        have h1 := minL_le ns m
        have h2 := hle _ (minL_mem ns m)
        rcases List.mem_cons.mp hk with rfl | hk
        · omega
        · have := h1.2 k hk; omega
      subst e
      exact Run.ok R h (.int _) (fun _ z => by cases z)
    · exact h.elim
  · obtain ⟨v, u, rfl, r1, r2⟩ := r.two
    cases r1; cases r2
    refine .inr ⟨_, _, rfl, ?_⟩
    have e : ∀ i j : Int, (if j < i then j else i) = min i j := fun i j => by split <;> omega
    rw [e]
    exact Run.ok R h (.int _) (fun _ z => by cases z)
  · exact h.elim
theorem abs_run (R : Rel G W Z φ M H) (r : SRs G (Bar W Z) φ H avs vs) (h : Run G Z φ W H (absOp avs M) Q E) : ∃ i, vs = [.int i] ∧ Q (.int (if i < 0 then -i else i)) H := by
  unfold absOp at h
  split at h
  · obtain ⟨v, rfl, r1⟩ := r.one
    cases r1
    refine ⟨_, rfl, ?_⟩
    have e : ∀ i : Int, (if i < 0 then -i else i) = i.natAbs := fun i => by split <;> omega
    rw [e]
    exact Run.ok R h (.int _) (fun _ z => by cases z)
  · exact h.elim
theorem int_run (R : Rel G W Z φ M H) (r : SRs G (Bar W Z) φ H avs vs) (h : Run G Z φ W H (intOp avs M) Q E) : (∃ i, vs = [.int i] ∧ Q (.int i) H) ∨ ∃ k, vs = [.bl k] ∧ Q (.int (if k then 1 else 0)) H := by
  unfold intOp at h
  split at h
  · obtain ⟨v, rfl, r1⟩ := r.one
    cases r1
    exact .inl ⟨_, rfl, Run.ok R h (.int _) (fun _ z => by cases z)⟩
  · obtain ⟨v, rfl, r1⟩ := r.one
    cases r1
    exact .inr ⟨_, rfl, Run.ok R h (.int _) (fun _ z => by cases z)⟩
  · exact h.elim
theorem tuple_run (R : Rel G W Z φ M H) (r : SRs G (Bar W Z) φ H avs vs) (h : Run G Z φ W H (tupleOp avs M) Q E) :
    ∃ p ys, vs = [.ref p] ∧ ((SqL G.K H p ys ∧ ∀ l, H l = none → Q (.ref l) (upd H l (.tup ys))) ∨ (SqT G.K H p ys ∧ Q (.ref p) H)) := by
  unfold tupleOp at h
  split at h
  · obtain ⟨v, rfl, r1⟩ := r.one
    split at h
    · rename_i xs e
      obtain ⟨p, ys, rfl, h1, h2, _⟩ := R.lst r1 e
      exact ⟨p, ys, rfl, .inl ⟨h1, Run.tup R h h2⟩⟩
    · cases r1 with
      | tup h1 h2 => exact ⟨_, _, rfl, .inr ⟨h1.sq, Run.ok R h (.tup h1 h2) (fun _ z => by cases z)⟩⟩
    · exact h.elim
  · exact h.elim
theorem list_run (R : Rel G W Z φ M H) (r : SRs G (Bar W Z) φ H avs vs) (h : Run G Z φ W H (listOp avs M) Q E) :
    ∃ p ys, vs = [.ref p] ∧ (SqL G.K H p ys ∨ SqT G.K H p ys) ∧ ∀ l, H l = none → Q (.ref l) (upd H l (.lst ys)) := by
  unfold listOp at h
  split at h
  · obtain ⟨v, rfl, r1⟩ := r.one
    split at h
    · rename_i xs e
      obtain ⟨p, ys, rfl, h1, h2, _⟩ := R.lst r1 e
      exact ⟨p, ys, rfl, .inl h1, Run.new R h h2⟩
    · cases r1 with
      | tup h1 h2 => exact ⟨_, _, rfl, .inr h1.sq, Run.new R h h2⟩
    · exact h.elim
  · exact h.elim
theorem sorted_run (R : Rel G W Z φ M H) (r : SRs G (Bar W Z) φ H avs vs) (h : Run G Z φ W H (sortedOp avs M) Q E) : rSortedI G.K vs H Q := by
  unfold sortedOp at h
  split at h
  · obtain ⟨v, rfl, r1⟩ := r.one
    split at h
    · rename_i ns e
      obtain ⟨p, rfl, h1⟩ := R.ints r1 e
      refine ⟨p, ns, rfl, h1, fun ms l hp hs hl => ?_⟩
      have e : ms = sortI ns := sorted_unique (hp.trans (sortI_perm ns).symm) hs (sortI_sorted ns)
      subst e
      exact Run.new R h (RDs.of_ints _) l hl
    · exact h.elim
  · exact h.elim
theorem str_run (R : Rel G W Z φ M H) (r : SRs G (Bar W Z) φ H avs vs) (h : Run G Z φ W H (strOp avs M) Q E) : (∃ i, vs = [.int i] ∧ i.natAbs.log2 < 1920 ∧ Q (.str (toString i)) H) ∨ ∃ a, vs = [.str a] ∧ Q (.str a) H := by
  unfold strOp at h
  split at h
  · obtain ⟨v, rfl, r1⟩ := r.one
    obtain ⟨g, h⟩ := guard_run (P := fun r => Run G Z φ W H r Q E) h (fun z => z)
    cases r1
    exact .inl ⟨_, rfl, of_decide_eq_true g, Run.ok R h (.str _) (fun _ z => by cases z)⟩
  · obtain ⟨v, rfl, r1⟩ := r.one
    cases r1
    exact .inr ⟨_, rfl, Run.ok R h (.str _) (fun _ z => by cases z)⟩
  · exact h.elim
end
end Mp

namespace Mp
open PySem L2

/-! ## isinstance -/
def tyName (M : Mem) : AV → Option String
  | .d .non => some "NoneType"
  | .d (.bl _) => some "bool"
  | .d (.int _) => some "int"
  | .d (.str _) => some "str"
  | .d (.tup _) => some "tuple"
  | .d (.fn _) => none
  | a => match lstOf M a with | some _ => some "list" | none => none
def isi1 (t u : String) : Bool := t == u || (t == "bool" && u == "int")
def tyNames : List String := ["NoneType", "bool", "int", "str", "tuple", "list"]
def clsNames : List String := ["int", "bool", "tuple", "list", "str"]
theorem isi_tab : ∀ t ∈ tyNames, ∀ u ∈ clsNames, kitB t u = some (isi1 t u) := by decide +kernel
def isiOp (us : List String) (x : AV) (M : Mem) : Out AV := match tyName M x with
  | some t => .ok (.d (.bl (us.any (isi1 t)))) M
  | none => .bad
def sIsi (us : List String) (f : SE) : SE := sOne (isiOp us) f
theorem tyName_mem {M : Mem} {a : AV} {t : String} (h : tyName M a = some t) : t ∈ tyNames := by
  unfold tyName at h
  split at h <;> first | (cases h; decide) | (split at h <;> first | (cases h; decide) | cases h) | cases h
section
variable {G : Gm} {W Z B : Addr → Prop} {φ : List Addr} {H : Hp} {M : Mem} {v : V}
theorem tyName_ok (R : Rel G W Z φ M H) {a : AV} {t : String} (r : SR G (Bar W Z) φ H a v) (h : tyName M a = some t) : TyX G.K H v (.type t) := by
  unfold tyName at h
  split at h
  · cases h; cases r; exact .base .non
  · cases h; cases r; exact .base (.bl _)
  · cases h; cases r; exact .base (.int _)
  · cases h; cases r; exact .base (.str _)
  · cases h
    cases r with
    | tup h1 h2 =>
      rcases h1 with h1 | ⟨_, o, its, n, h1, h3, _⟩
      · exact .base (.tup h1.1)
      · exact .kTuple h1 h3
  · cases h
  · split at h
    · rename_i xs e
      cases h
      obtain ⟨p, vs, rfl, h1, h2, _⟩ := R.lst r e
      rcases h1 with (h1 | ⟨o, h1⟩) | ⟨o, its, n, h1, h3, _⟩
      · exact .base (.lst h1)
      · exact .base (.frz h1)
      · exact .kList h1 h3
    · cases h
end
theorem kitAny_ty {K : PySem.W.Frag} {t : String} (ht : t ∈ tyNames) : ∀ us : List String, (∀ u ∈ us, u ∈ clsNames) → PySem.W.kitAny K (.type t) (us.map Value.type) = some (us.any (isi1 t))
  | [], _ => rfl
  | u :: us, h => by
    have h1 := isi_tab t ht u (h u (.head _))
    have ih := kitAny_ty (K := K) ht us fun u hu => h u (.tail _ hu)
    refine kitAny_cons (kit_ty h1) (fun e => ?_) fun e => ?_
    · rw [ih, List.any_cons, e, Bool.false_or]
    · rw [List.any_cons, e, Bool.true_or]
theorem paired_ty : ∀ us : List String, Paired ClsV (us.map V.ty) (us.map Value.type)
  | [] => .nil
  | u :: us => .cons (.ty u) (paired_ty us)
/-- the names of classes, as arguments -/
def tTys (us : List String) : TA := fun _ H Q => Q (us.map V.ty) H
section
variable {X : Cx} {E : WX} {a e t : Expr} {es : List Expr} {f : SE} {pos p q : Pos} {k : Nat}
theorem ge_isi1 {u : String} (hg : Gl X "isinstance") (hm : X.mg "isinstance" = none) (hu : u ∈ clsNames) (ht : PE X t (tC (.ty u))) (ha : GE X E a f)
    (h1 : starEach [a, t] X.env = (false, eval a X.env) :: starEach [t] X.env) (h2 : starEach [t] X.env = (false, eval t X.env) :: starEach [] X.env) (h3 : (backTo pos (starEach [t] X.env)).any (·.1) = false) :
    GE X E (.Call (.Name "isinstance" p) [a, t] [] pos) (sIsi [u] f) :=
  PE.imp (pe_callB call_isi hg hm PyProof.Rows.boot_isinstance (pa_cons ha (pa_cons ht pa_nil h2) h1) (he := h1) (hpl := h3)) fun σ H Q ⟨W, Z, φ, env, M, R, Er, h⟩ => ⟨W, Z, φ, env, M, R, Er, (Run.bind h).imp fun v H1 ⟨W1, M1, x, _, R1, x1, r1, h2⟩ => by
    unfold isiOp at h2
    cases e : tyName M1 x with
    | none => rw [e] at h2; exact h2.elim
    | some t =>
      rw [e] at h2
      have c := isi_tab t (tyName_mem e) u hu
      refine ⟨v, .ty u, .type t, .type u, isi1 t u, rfl, .ty u, tyName_ok R1 r1.sr e, kit_ty c, ?_⟩
      have z : [u].any (isi1 t) = isi1 t u := by simp
      dsimp only at h2
      rw [z] at h2
      exact Run.ok R1 h2 (.bl _) (fun _ z => by cases z)⟩
theorem ge_isiT {us : List String} (hg : Gl X "isinstance") (hm : X.mg "isinstance" = none) (hu : ∀ u ∈ us, u ∈ clsNames) (hl : us.length ≤ sizeLine) (ht : PA X es (tTys us)) (ha : GE X E a f)
    (h1 : starEach [a, .Tuple es k q] X.env = (false, eval a X.env) :: starEach [.Tuple es k q] X.env) (h2 : starEach [.Tuple es k q] X.env = (false, eval (.Tuple es k q) X.env) :: starEach [] X.env) (h3 : (backTo pos (starEach [.Tuple es k q] X.env)).any (·.1) = false) :
    GE X E (.Call (.Name "isinstance" p) [a, .Tuple es k q] [] pos) (sIsi us f) :=
  PE.imp (pe_callB call_isiT hg hm PyProof.Rows.boot_isinstance (pa_cons ha (pa_cons (pe_tup ht) pa_nil h2) h1) (he := h1) (hpl := h3)) fun σ H Q ⟨W, Z, φ, env, M, R, Er, h⟩ => ⟨W, Z, φ, env, M, R, Er, (Run.bind h).imp fun v H1 ⟨W1, M1, x, _, R1, x1, r1, h2⟩ => by
    unfold isiOp at h2
    cases e : tyName M1 x with
    | none => rw [e] at h2; exact h2.elim
    | some t =>
      rw [e] at h2
      refine ⟨by rw [List.length_map]; exact hl, fun tp htp => ?_⟩
      have R2 := R1.laid0 (o := .tup (us.map V.ty)) htp
      have x2 := Ext.laid R1 (o := .tup (us.map V.ty)) htp
      refine ⟨v, tp, us.map V.ty, .type t, us.map Value.type, us.any (isi1 t), rfl, upd_same, ?_, tyName_ok R2 (r1.sr.ext x2.bar) e, kitAny_ty (tyName_mem e) us hu, Run.ok R2 (Run.later x2 h2) (.bl _) (fun _ z => by cases z)⟩
      exact paired_ty us⟩
end

/-! ## calls of own defs -/
def spOf (G : Gm) (F : List AV → Mem → Out AV) : Sp := fun vs H Q E => ∃ W Z φ M avs, Rel G W Z φ M H ∧ SRs G (Bar W Z) φ H avs vs ∧ Run G Z φ W H (F avs M) Q E
/-- a def that may be called here -/
structure Cald (X : Cx) (k : Nat) (x : Str) (F : List AV → Mem → Out AV) : Prop where
  ex : ∃ f fd ps, X.mg x = some (.ref f) ∧ PySem.W.keepIn X.K (.ref f) = true ∧ Binds X.K fd ps [] ∧ FnOk X.prog X.w X.K X.mg X.base (L2.CX X.prog X.w) k f fd ps (spOf (gm X) F)
section
variable {X : Cx} {E : WX} {a e t : Expr} {es : List Expr} {l : SL} {pos p q : Pos} {k : Nat}
theorem ge_call {x : Str} {F : List AV → Mem → Out AV} (c : Cald X k x F) (hr : Room k X.A) (tk : Takes X E) (hg : Gl X x) (hl : GL X E (e :: es) l) (hdb : (x == ("__debug__" : Str)) = false)
    (he : starEach (e :: es) X.env = (false, eval e X.env) :: starEach es X.env) (hpl : (backTo pos (starEach es X.env)).any (·.1) = false) : GE X E (.Call (.Name x p) (e :: es) [] pos) (sArgs F l) := by
  obtain ⟨f, fd, ps, h1, h2, h3, h4⟩ := c.ex
  exact PE.imp (pe_callS h4 hr hg h1 h2 h3 (fun σ => passAt tk σ) hl hdb he hpl) fun σ H Q ⟨W, Z, φ, env, M, R, Er, h⟩ => ⟨W, Z, φ, env, M, R, Er, (Run.bind h).imp fun vs H1 ⟨W1, M1, avs, _, R1, x1, r1, h2⟩ => ⟨W1, Z, φ, M1, avs, R1, r1, h2⟩⟩
end

/-! ## targets -/
inductive Tg where
  | name (i : Nat) | nil | cons (a b : Tg) | tup (a : Tg)
def Tg.bind : Tg → D → Env → Option Env
  | .name i, d, env => some (env.set i (some (.d d)))
  | .nil, .tup [], env => some env
  | .cons a b, .tup (x :: r), env => match a.bind x env with
    | some e => b.bind (.tup r) e
    | none => none
  | .tup a, .tup r, env => a.bind (.tup r) env
  | _, _, _ => none
def Tg.slots : Tg → List Nat
  | .name i => [i]
  | .nil => []
  | .cons a b => a.slots ++ b.slots
  | .tup a => a.slots
def rdT (G : Gm) (t : Tg) : TG := fun v σ H Q => ∃ W Z φ env M d env', Rel G W Z φ M H ∧ EnvR G (Bar W Z) φ H env σ ∧ RD G (Bar W Z) H d v ∧ t.bind d env = some env' ∧
  ∀ σ', EnvR G (Bar W Z) φ H env' σ' → (∀ j, j ∉ t.slots → σ'[j]? = σ[j]?) → Q σ' H
def rdTs (G : Gm) (t : Tg) : TGs := fun vs σ H Q => ∃ W Z φ env M ds env', Rel G W Z φ M H ∧ EnvR G (Bar W Z) φ H env σ ∧ RDs G (Bar W Z) H ds vs ∧ t.bind (.tup ds) env = some env' ∧
  ∀ σ', EnvR G (Bar W Z) φ H env' σ' → (∀ j, j ∉ t.slots → σ'[j]? = σ[j]?) → Q σ' H
theorem EnvR.set {G : Gm} {B : Addr → Prop} {φ : List Addr} {H : Hp} {env : Env} {σ : St} (h : EnvR G B φ H env σ) {av : AV} {v : V} (r : SR G B φ H av v) (i : Nat) : EnvR G B φ H (env.set i (some av)) (σ.set i (some v)) :=
  ⟨by rw [List.length_set, List.length_set]; exact h.len, fun j a e => by
    by_cases hj : i = j
    · subst hj
      by_cases hi : i < env.length
      · rw [List.getElem?_set_self hi] at e
        cases e
        exact ⟨v, List.getElem?_set_self (by rw [← h.len]; exact hi), r⟩
      · rw [List.getElem?_eq_none (by rw [List.length_set]; omega)] at e; cases e
    · rw [List.getElem?_set_ne hj] at e
      obtain ⟨u, e1, r1⟩ := h.at_ j a e
      exact ⟨u, by rw [List.getElem?_set_ne hj]; exact e1, r1⟩⟩
section
variable {X : Cx} {a : Expr} {es : List Expr} {pos : Pos} {t u : Tg}
theorem PG.imp {t t' : TG} (h : PG X a t) (k : ∀ v σ H Q, t' v σ H Q → t v σ H Q) : PG X a t' := ⟨fun pins s σ H v w Q I r q => h.run pins s σ H v w Q I r (k v σ H Q q)⟩
theorem PGs.imp {t t' : TGs} (h : PGs X es t) (k : ∀ v σ H Q, t' v σ H Q → t v σ H Q) : PGs X es t' := ⟨fun pins s σ H v w Q I r q => h.run pins s σ H v w Q I r (k v σ H Q q)⟩
theorem gg_name {i : Nat} {x : Str} (hN : X.N.Nodup) (hi : X.N[i]? = some x) (hx : Loc X.env.scope x) (hf : X.fn x = true ∨ X.env.scope.names.lookup x = some .local) : PG X (.Name x pos) (rdT (gm X) (.name i)) :=
  PG.imp (pg_name hN hi hx hf) fun v σ H Q ⟨W, Z, φ, env, M, d, env', R, Er, r, hb, q⟩ => by
    cases hb
    exact q _ (Er.set (av := .d d) r i) fun j hj => List.getElem?_set_ne fun z => hj (by subst z; simp [Tg.slots])
theorem gg_nil : PGs X [] (rdTs (gm X) .nil) :=
  PGs.imp pgs_nil fun v σ H Q ⟨W, Z, φ, env, M, ds, env', R, Er, r, hb, q⟩ => by
    cases ds with
    | nil => cases r; cases hb; exact ⟨rfl, q _ Er fun _ _ => rfl⟩
    | cons _ _ => cases hb
theorem gg_cons (h1 : PG X a (rdT (gm X) t)) (h2 : PGs X es (rdTs (gm X) u)) (hs : (assignEach (a :: es) X.env).map (·.2) = assign a X.env :: (assignEach es X.env).map (·.2)) : PGs X (a :: es) (rdTs (gm X) (.cons t u)) :=
  PGs.imp (pgs_cons h1 h2 hs) fun v σ H Q ⟨W, Z, φ, env, M, ds, env', R, Er, r, hb, q⟩ => by
    cases ds with
    | nil => cases hb
    | cons d ds =>
      cases r with
      | cons r1 r2 =>
        unfold Tg.bind at hb
        cases e : t.bind d env with
        | none => rw [e] at hb; cases hb
        | some env1 =>
          rw [e] at hb
          refine ⟨_, _, rfl, W, Z, φ, env, M, d, env1, R, Er, r1, e, fun σ1 Er1 s1 => ⟨W, Z, φ, env1, M, ds, env', R, Er1, r2, hb, fun σ2 Er2 s2 => q σ2 Er2 fun j hj => ?_⟩⟩
          simp only [Tg.slots, List.mem_append, not_or] at hj
          rw [s2 j hj.2, s1 j hj.1]
theorem gg_tup {k n : Nat} (hc : X.calm = true) (h : PGs X es (rdTs (gm X) t)) (hn : (assignEach es X.env).length = n) (hst : (assignEach es X.env).findIdx? (·.1) = none)
    (hl : ∀ ds env env', t.bind (.tup ds) env = some env' → ds.length = n) : PG X (.Tuple es k pos) (rdT (gm X) (.tup t)) :=
  PG.imp (pg_tup hc h hn hst) fun v σ H Q ⟨W, Z, φ, env, M, d, env', R, Er, r, hb, q⟩ => by
    cases d with
    | tup ds =>
      cases r with
      | tup r1 r2 => exact ⟨_, _, rfl, r1.sq, by rw [← r2.length]; exact hl ds env env' hb, W, Z, φ, env, M, ds, env', R, Er, r2, hb, q⟩
    | _ => cases hb
end
end Mp

namespace Mp
open PySem L2

/-! ## what is walked -/
structure Itm where
  items : List D
  deps : List (Nat × List D)
def depsOk (M : Mem) (deps : List (Nat × List D)) : Bool := deps.all fun p => decide (M[p.1]? = some (some (.l p.2)))
abbrev SI := Env → Mem → Out Itm
structure Later (G : Gm) (Z : Addr → Prop) (φ : List Addr) (W₁ : Addr → Prop) (H₁ : Hp) (deps : List (Nat × List D)) (Z' W : Addr → Prop) (ψ : List Addr) (M : Mem) (H : Hp) : Prop where
  bar : ∀ a, Z' a → Z a ∨ H₁ a = none
  rel : Rel G W Z' (φ ++ ψ) M H
  ext : Ext W₁ H₁ W H
  ok : depsOk M deps = true
def IR (G : Gm) (Z : Addr → Prop) (φ : List Addr) (W₁ : Addr → Prop) (H₁ : Hp) (it : Itm) (J : It) : Prop :=
  ∃ Gd Y, Walk J it.items.length Gd Y ∧ (∀ Z' W ψ M H, Later G Z φ W₁ H₁ it.deps Z' W ψ M H → Gd H) ∧
    ∀ i x H' Z' W ψ M H, Later G Z φ W₁ H₁ it.deps Z' W ψ M H → i < it.items.length → Y i H x H' → ∃ d, it.items[i]? = some d ∧ Rel G W Z' (φ ++ ψ) M H' ∧ Ext W H W H' ∧ RD G (Bar W Z') H' d x
def rdI (G : Gm) (f : SI) (E : WX) : TI := fun σ H R => ∃ W Z φ env M, Rel G W Z φ M H ∧ EnvR G (Bar W Z) φ H env σ ∧ RunG (fun W' H' _ it J => IR G Z φ W' H' it J) G Z φ W H (f env M) R fun c d H' => E c d σ H'
abbrev GI (X : Cx) (E : WX) (tg e : Expr) (f : SI) : Prop := PI X tg e (rdI (gm X) f E)

section
variable {G : Gm} {W Z W₁ : Addr → Prop} {φ : List Addr} {H H₁ : Hp} {M : Mem} {deps : List (Nat × List D)} {Z' : Addr → Prop} {ψ : List Addr} {E : XK}
/-- data of the start are data later -/
theorem Later.rd (L : Later G Z φ W₁ H₁ deps Z' W ψ M H) : Ext (Bar W₁ Z) H₁ (Bar W Z') H :=
  ⟨fun a o e n => ⟨(L.ext.keep a o e fun z => n (.inl z)).1, fun z => z.elim (L.ext.keep a o e fun z => n (.inl z)).2 fun z => (L.bar a z).elim (fun z => n (.inr z)) fun z => by rw [z] at e; cases e⟩, L.ext.live⟩
theorem IR.run {it : Itm} {J : It} {R : It → Hp → Prop} (Rl : Rel G W Z φ M H) (h : RunG (fun W' H' _ it J => IR G Z φ W' H' it J) G Z φ W H (.ok it M) R E) (q : IR G Z φ W H it J) : R J H := h W H J Rl (Ext.refl _ _) q
/-- a list as it stands at each turn -/
theorem walk_any {K : PySem.W.Frag} {a : Addr} {n : Nat} : Walk (Itl K a) n (fun H => ∃ vs, SqL K H a vs ∧ vs.length = n) (fun i H x H' => H' = H ∧ ∀ vs, SqL K H a vs → vs[i]? = some x) :=
  ⟨fun i H hi ⟨vs, q, e⟩ => ⟨vs, vs[i]'(by omega), q, by simp [e, hi]⟩, fun H ⟨vs, q, e⟩ => ⟨vs, q, by omega⟩, fun _ _ _ _ _ _ y => y⟩
/-- a settled list: how it is met later -/
def depOf (x : AV) (xs : List D) : List (Nat × List D) := match x with
  | .cell i => [(i, xs)]
  | _ => []
theorem lst_later {x : AV} {v : V} {xs : List D} (R : Rel G W₁ Z φ M H₁) (r : SR G (Bar W₁ Z) φ H₁ x v) (h : lstOf M x = some xs) :
    ∃ p, v = .ref p ∧ (∃ vs, SqL G.K H₁ p vs) ∧ ∀ deps Z' W ψ M' H, (∀ q ∈ depOf x xs, q ∈ deps) → Later G Z φ W₁ H₁ deps Z' W ψ M' H → ∃ vs, SqL G.K H p vs ∧ RDs G (Bar W Z') H xs vs := by
  obtain ⟨p, vs, rfl, h1, h2, h3⟩ := R.lst r h
  refine ⟨p, rfl, ⟨vs, h1⟩, fun deps Z' W ψ M' H hd L => ?_⟩
  cases x with
  | cell i =>
    obtain ⟨p', e, e'⟩ := r
    cases e'
    have hd := hd (i, xs) (by simp [depOf])
    have ok := List.all_eq_true.mp L.ok _ hd
    have ok := of_decide_eq_true ok
    obtain ⟨_, vs', k1, k2⟩ := L.rel.cell i p _ (by rw [List.getElem?_append_left (List.getElem?_eq_some_iff.mp e).1]; exact e) ok
    exact ⟨vs', .of k1, k2⟩
  | d y =>
    have r' : RD G (Bar W Z') H y (.ref p) := RD.ext L.rd r
    cases y with
    | lst ys =>
      have e : ys = xs := by simpa [lstOf] using h
      subst e
      cases r' with | lst k1 k2 => exact ⟨_, k1.sq, k2⟩
    | _ => cases h
  | fr ys =>
    have r' : RD G (Bar W Z') H (.lst ys) (.ref p) := RD.ext L.rd r
    have e : ys = xs := by simpa [lstOf] using h
    subst e
    cases r' with | lst k1 k2 => exact ⟨_, k1.sq, k2⟩
  | scr ns =>
    obtain ⟨a, e, s⟩ := r
    cases e
    have e : ns.map D.int = xs := by simpa [lstOf] using h
    subst e
    exact ⟨_, (s.ext L.rd).sq, RDs.of_ints ns⟩
end

/-! ### lists, tuples, texts -/
def chars (z : Str) : List D := z.cps.toList.map fun c => .str ⟨#[c]⟩
def seqItm (M : Mem) (x : AV) : Option Itm := match lstOf M x, x with
  | some xs, _ => some ⟨xs, depOf x xs⟩
  | none, .d (.tup xs) => some ⟨xs, []⟩
  | none, .d (.str z) => some ⟨chars z, []⟩
  | _, _ => none
def sSeq (f : SE) : SI := fun env M => (f env M).bind fun x M1 => match seqItm M1 x with
  | some it => .ok it M1
  | none => .bad
section
variable {X : Cx} {E : WX} {tg a b c e : Expr} {f g k : SE} {l : SL} {pos p : Pos}
theorem PI.imp {t t' : TI} (h : PI X tg e t) (k : ∀ σ H Q, t' σ H Q → t σ H Q) : PI X tg e t' := ⟨fun pins s σ H Q I q => h.run pins s σ H Q I (k σ H Q q)⟩
theorem PI.or {t t' : TI} (h : PI X tg e t) (h' : PI X tg e t') : PI X tg e (fun σ H Q => t σ H Q ∨ t' σ H Q) := ⟨fun pins s σ H Q I q => q.elim (h.run pins s σ H Q I) (h'.run pins s σ H Q I)⟩
theorem RunI.bind {α β : Type} {G : Gm} {W Z : Addr → Prop} {φ : List Addr} {H : Hp} {E : XK} {R : (Addr → Prop) → Hp → Mem → α → β → Prop} {r : Out α} {k : α → Mem → Out Itm} {Q : It → Hp → Prop}
    (h : RunG (fun W' H' _ it J => IR G Z φ W' H' it J) G Z φ W H (r.bind k) Q E) :
    RunG R G Z φ W H r (fun v H1 => ∃ W1 M1 a, r = .ok a M1 ∧ Rel G W1 Z φ M1 H1 ∧ Ext W H W1 H1 ∧ R W1 H1 M1 a v ∧ RunG (fun W' H' _ it J => IR G Z φ W' H' it J) G Z φ W1 H1 (k a M1) Q E) E :=
  RunG.bind (R2 := fun _ _ W' H' _ it J => IR G Z φ W' H' it J) h fun W1 H1 a M1 x => by
    cases k a M1 with
    | ok it M' => exact fun q W' H' v R y z => q W' H' v R (x.trans y) z
    | exc e M' => exact fun q W' H' c d R y z => q W' H' c d R (x.trans y) z
    | bad => exact fun q => q
theorem gi_seq (ha : GE X E a f) : GI X E tg a (sSeq f) := by
  refine PI.imp (PI.or (PI.or (pi_list (tg := tg) ha) (pi_tup (tg := tg) ha)) (pi_str (tg := tg) ha)) fun σ H Q ⟨W, Z, φ, env, M, R, Er, h⟩ => ?_
  have h1 := RunI.bind (R := fun W' H' M' av v => VR (gm X) W' Z φ H H' M' av v) h
  have go : ∀ {P : V → Hp → Prop}, (∀ v H1 W1 M1 x, f env M = .ok x M1 → Rel (gm X) W1 Z φ M1 H1 → SR (gm X) (Bar W1 Z) φ H1 x v →
      RunG (fun W' H' _ it J => IR (gm X) Z φ W' H' it J) (gm X) Z φ W1 H1 (match seqItm M1 x with | some it => .ok it M1 | none => .bad) Q (fun c d H' => E c d σ H') → P v H1) → rdE (gm X) f E σ H P := fun {P} hP =>
    ⟨W, Z, φ, env, M, R, Er, h1.imp fun v H1 ⟨W1, M1, x, e, R1, x1, r1, h2⟩ => hP v H1 W1 M1 x e R1 r1.sr h2⟩
  cases e : f env M with
  | bad => exact .inl (.inl (go fun v H1 W1 M1 x e1 => by rw [e] at e1; cases e1))
  | exc _ _ => exact .inl (.inl (go fun v H1 W1 M1 x e1 => by rw [e] at e1; cases e1))
  | ok x M1 =>
    cases el : lstOf M1 x with
    | some xs =>
      refine .inl (.inl (go fun v H1 W1 M1' x' e1 R1 r1 h2 => ?_))
      rw [e] at e1; cases e1
      have es : seqItm M1 x = some ⟨xs, depOf x xs⟩ := by unfold seqItm; rw [el]
      rw [es] at h2
      obtain ⟨p, rfl, hq, hl⟩ := lst_later R1 r1 el
      refine ⟨p, rfl, hq, IR.run R1 h2 ⟨_, _, walk_any, fun Z' W ψ M H L => ?_, fun i y H' Z' W ψ M H L hi hy => ?_⟩⟩
      · obtain ⟨vs, h1, h2⟩ := hl _ Z' W ψ M H (fun _ z => z) L
        exact ⟨vs, h1, h2.length.symm⟩
      · obtain ⟨vs, h1, h2⟩ := hl _ Z' W ψ M H (fun _ z => z) L
        obtain ⟨rfl, hy⟩ := hy
        have hy := hy vs h1
        obtain ⟨d, hd⟩ : ∃ d, xs[i]? = some d := ⟨xs[i], by simp [show i < xs.length from hi]⟩
        obtain ⟨w, e1, r1⟩ := h2.get hd
        rw [hy] at e1; cases e1
        exact ⟨d, hd, L.rel, Ext.refl _ _, r1⟩
    | none =>
      have other : ∀ {R : Itm → Prop}, seqItm M1 x = none → True := fun _ => trivial
      cases x with
      | d y =>
        cases y with
        | tup xs =>
          refine .inl (.inr (go fun v H1 W1 M1' x' e1 R1 r1 h2 => ?_))
          rw [e] at e1; cases e1
          cases r1 with
          | tup k1 k2 =>
            rename_i p vs
            refine ⟨p, rfl, ⟨vs, k1.sq⟩, ?_⟩
            have ln : vs.length = xs.length := k2.length.symm
            have w := walk_tup (K := X.K) (a := p) (xs := vs)
            rw [ln] at w
            refine IR.run R1 h2 ⟨_, _, w, fun Z' W ψ M H L => (k1.ext L.rd).sq, fun i y H' Z' W ψ M H L hi hy => ?_⟩
            obtain ⟨rfl, hy⟩ := hy
            obtain ⟨d, hd⟩ : ∃ d, xs[i]? = some d := ⟨xs[i], by simp [show i < xs.length from hi]⟩
            obtain ⟨w, e1, r1⟩ := (k2.ext L.rd).get hd
            rw [hy] at e1; cases e1
            exact ⟨d, hd, L.rel, Ext.refl _ _, r1⟩
        | str z =>
          refine .inr (go fun v H1 W1 M1' x' e1 R1 r1 h2 => ?_)
          rw [e] at e1; cases e1
          cases r1
          refine ⟨z, rfl, ?_⟩
          have w := walk_str (z := z)
          have ln : z.cps.size = (chars z).length := by unfold chars; simp
          rw [ln] at w
          refine IR.run R1 h2 ⟨_, _, w, fun _ _ _ _ _ _ => trivial, fun i y H' Z' W ψ M H L hi hy => ?_⟩
          obtain ⟨rfl, c, hc, rfl⟩ := hy
          exact ⟨.str ⟨#[c]⟩, by unfold chars; simp [hc], L.rel, Ext.refl _ _, .str _⟩
        | _ =>
          refine .inl (.inl (go fun v H1 W1 M1' x' e1 R1 r1 h2 => ?_))
          rw [e] at e1; cases e1
          first | exact h2.elim | (simp [lstOf] at el)
      | _ =>
        refine .inl (.inl (go fun v H1 W1 M1' x' e1 R1 r1 h2 => ?_))
        rw [e] at e1; cases e1
        unfold seqItm at h2
        rw [el] at h2
        exact h2.elim
/-! ### ranges -/
end
def rngL (lo : Int) (n : Nat) : List D := (List.range n).map fun (k : Nat) => .int (lo + k)
def rngC (lo c : Int) (n : Nat) : List D := (List.range n).map fun (k : Nat) => .int (lo + k * c)
def small62 (i : Int) : Bool := decide (-(2 ^ 62) ≤ i) && decide (i < 2 ^ 62)
def rngItm : List AV → Option Itm
  | [.d (.int j)] => if small62 j = true then some ⟨rngL 0 j.toNat, []⟩ else none
  | [.d (.int i), .d (.int j)] => if (small62 i && small62 j) = true then some ⟨rngL i (j - i).toNat, []⟩ else none
  | [.d (.int i), .d (.int j), .d (.int c)] =>
    if c = -1 then (if (small62 i && small62 j) = true then some ⟨rngC i (-1) (i - j).toNat, []⟩ else none)
    else if c ≠ 0 ∧ c.natAbs < 1073741824 ∧ Builtin.Range.small i j c = true ∧ Builtin.Range.rangeSize i j c = ((Builtin.Range.rangeSize i j c).toNat : Int) then some ⟨rngC i c (Builtin.Range.rangeSize i j c).toNat, []⟩ else none
  | _ => none
def sRng (l : SL) : SI := fun env M => (l env M).bind fun avs M1 => match rngItm avs with
  | some it => .ok it M1
  | none => .bad
theorem rngL_at {lo : Int} {n i : Nat} (h : i < n) : (rngL lo n)[i]? = some (.int (lo + i)) := by unfold rngL; simp [h]
theorem rngC_at {lo c : Int} {n i : Nat} (h : i < n) : (rngC lo c n)[i]? = some (.int (lo + i * c)) := by unfold rngC; simp [h]
theorem rngL_len {lo : Int} {n : Nat} : (rngL lo n).length = n := by unfold rngL; simp
theorem rngC_len {lo c : Int} {n : Nat} : (rngC lo c n).length = n := by unfold rngC; simp
theorem small62_ok {i : Int} (h : small62 i = true) : -(2 ^ 62) ≤ i ∧ i < 2 ^ 62 := by
  unfold small62 at h
  simpa using h
section
variable {G : Gm} {W Z W₁ : Addr → Prop} {φ : List Addr} {H H₁ : Hp} {M : Mem} {E : XK}
theorem ir_rng {lo : Int} {n : Nat} : IR G Z φ W H ⟨rngL lo n, []⟩ (Itr lo n) := by
  have w := walk_range (lo := lo) (n := n)
  refine ⟨fun _ => True, YFn fun i => .int (lo + i), by show Walk _ (rngL lo n).length _ _; rw [rngL_len]; exact w, fun _ _ _ _ _ _ => trivial, fun i y H' Z' W ψ M H L hi hy => ?_⟩
  obtain ⟨rfl, rfl⟩ := hy
  exact ⟨_, rngL_at (by simpa [rngL_len] using hi), L.rel, Ext.refl _ _, .int _⟩
theorem ir_rngC {lo c : Int} {n : Nat} : IR G Z φ W H ⟨rngC lo c n, []⟩ (Itc lo c n) := by
  have w := walk_rangeC (lo := lo) (c := c) (n := n)
  refine ⟨fun _ => True, YFn fun i => .int (lo + (i : Nat) * c), by show Walk _ (rngC lo c n).length _ _; rw [rngC_len]; exact w, fun _ _ _ _ _ _ => trivial, fun i y H' Z' W ψ M H L hi hy => ?_⟩
  obtain ⟨rfl, rfl⟩ := hy
  exact ⟨_, rngC_at (by simpa [rngC_len] using hi), L.rel, Ext.refl _ _, .int _⟩
end
section
variable {X : Cx} {E : WX} {tg a b c e : Expr} {f g k : SE} {l : SL} {pos p : Pos}
theorem gi_rng1 (hg : Gl X "range") (hm : X.mg "range" = none) (hs : starEach [a] X.env = [(false, eval a X.env)]) (hl : GL X E [a] l) (h1 : ∀ env M avs M', l env M = .ok avs M' → avs.length = 1) : GI X E tg (.Call (.Name "range" p) [a] [] pos) (sRng l) :=
  PI.imp (pi_range1 hg hm hl hs) fun σ H Q ⟨W, Z, φ, env, M, R, Er, h⟩ => ⟨W, Z, φ, env, M, R, Er, (RunI.bind h).imp fun vs H1 ⟨W1, M1, avs, e, R1, x1, r1, h2⟩ => by
    have ln := h1 _ _ _ _ e
    unfold rngItm at h2
    split at h2
    · rename_i it e2
      split at e2
      · split at e2
        · rename_i j hj
          cases e2
          obtain ⟨v, rfl, r⟩ := r1.one
          cases r
          exact ⟨j, rfl, (small62_ok hj).1, (small62_ok hj).2, IR.run R1 h2 ir_rng⟩
        · cases e2
      · cases ln
      · cases ln
      · cases e2
    · exact h2.elim⟩
theorem gi_rng2 (hg : Gl X "range") (hm : X.mg "range" = none) (hs : starEach [a, b] X.env = [(false, eval a X.env), (false, eval b X.env)]) (hs2 : starEach [b] X.env = [(false, eval b X.env)]) (hl : GL X E [a, b] l) (h1 : ∀ env M avs M', l env M = .ok avs M' → avs.length = 2) :
    GI X E tg (.Call (.Name "range" p) [a, b] [] pos) (sRng l) :=
  PI.imp (pi_range2 hg hm hl hs hs2) fun σ H Q ⟨W, Z, φ, env, M, R, Er, h⟩ => ⟨W, Z, φ, env, M, R, Er, (RunI.bind h).imp fun vs H1 ⟨W1, M1, avs, e, R1, x1, r1, h2⟩ => by
    have ln := h1 _ _ _ _ e
    unfold rngItm at h2
    split at h2
    · rename_i it e2
      split at e2
      · cases ln
      · split at e2
        · rename_i i j hj
          cases e2
          obtain ⟨v, u, rfl, r, r'⟩ := r1.two
          cases r; cases r'
          rw [Bool.and_eq_true] at hj
          exact ⟨i, j, rfl, ⟨(small62_ok hj.1).1, (small62_ok hj.1).2, (small62_ok hj.2).1, (small62_ok hj.2).2⟩, IR.run R1 h2 ir_rng⟩
        · cases e2
      · cases ln
      · cases e2
    · exact h2.elim⟩
theorem SRs.three {G : Gm} {B : Addr → Prop} {φ : List Addr} {H : Hp} {a b c : AV} {vs : List V} (r : SRs G B φ H [a, b, c] vs) : ∃ v u w, vs = [v, u, w] ∧ SR G B φ H a v ∧ SR G B φ H b u ∧ SR G B φ H c w := by
  match vs, r with
  | [v, u, w], ⟨h, h2, h3, _⟩ => exact ⟨v, u, w, rfl, h, h2, h3⟩
theorem gi_rng3 (hp : ∀ {t : TA}, PA X [a, b, c] t → PI X tg (.Call (.Name "range" p) [a, b, c] [] pos) (iRng3 t)) (hl : GL X E [a, b, c] l) (h1 : ∀ env M avs M', l env M = .ok avs M' → avs.length = 3) :
    GI X E tg (.Call (.Name "range" p) [a, b, c] [] pos) (sRng l) :=
  PI.imp (hp hl) fun σ H Q ⟨W, Z, φ, env, M, R, Er, h⟩ => ⟨W, Z, φ, env, M, R, Er, (RunI.bind h).imp fun vs H1 ⟨W1, M1, avs, e, R1, x1, r1, h2⟩ => by
    have ln := h1 _ _ _ _ e
    unfold rngItm at h2
    split at h2
    · rename_i it e2
      split at e2
      · cases ln
      · cases ln
      · obtain ⟨v, u, w, rfl, r, r', r''⟩ := r1.three
        cases r; cases r'; cases r''
        split at e2
        · rename_i hc
          subst hc
          split at e2
          · rename_i hj
            cases e2
            rw [Bool.and_eq_true] at hj
            exact ⟨_, _, _, _, rfl, .neg (small62_ok hj.1).1 (small62_ok hj.1).2 (small62_ok hj.2).1 (small62_ok hj.2).2, IR.run R1 h2 ir_rngC⟩
          · cases e2
        · split at e2
          · rename_i hc
            cases e2
            exact ⟨_, _, _, _, rfl, hc, IR.run R1 h2 ir_rngC⟩
          · cases e2
      · cases e2
    · exact h2.elim⟩
end
/-! ### enumerate, zip -/
def enumL : Nat → List D → List D
  | _, [] => []
  | k, x :: r => .tup [.int k, x] :: enumL (k + 1) r
def zipL : List D → List D → List D
  | x :: r, y :: s => .tup [x, y] :: zipL r s
  | _, _ => []
theorem enumL_at : ∀ {xs : List D} {k i : Nat} {x : D}, xs[i]? = some x → (enumL k xs)[i]? = some (.tup [.int ((k + i : Nat) : Int), x])
  | [], _, _, _, h => by simp at h
  | _ :: _, k, 0, _, h => by simp at h; subst h; rfl
  | _ :: r, k, i + 1, x, h => by
    have ih := enumL_at (xs := r) (k := k + 1) (i := i) (x := x) (by simpa using h)
    have e : k + 1 + i = k + (i + 1) := by omega
    rw [e] at ih
    simpa [enumL] using ih
theorem enumL_len : ∀ (xs : List D) (k : Nat), (enumL k xs).length = xs.length
  | [], _ => rfl
  | _ :: r, k => by simp [enumL, enumL_len r (k + 1)]
theorem zipL_at : ∀ {xs ys : List D} {i : Nat} {x y : D}, xs[i]? = some x → ys[i]? = some y → (zipL xs ys)[i]? = some (.tup [x, y])
  | [], _, _, _, _, h, _ => by simp at h
  | _ :: _, [], _, _, _, _, h => by simp at h
  | _ :: _, _ :: _, 0, _, _, h, h' => by simp at h h'; subst h; subst h'; rfl
  | _ :: r, _ :: s, i + 1, x, y, h, h' => by simpa [zipL] using zipL_at (xs := r) (ys := s) (i := i) (x := x) (y := y) (by simpa using h) (by simpa using h')
theorem zipL_len : ∀ (xs ys : List D), (zipL xs ys).length = min xs.length ys.length
  | [], _ => by simp [zipL]
  | _ :: _, [] => by simp [zipL]
  | _ :: r, _ :: s => by simp [zipL, zipL_len r s]
def enumItm (M : Mem) : List AV → Option Itm
  | [x] => match lstOf M x with
    | some xs => some ⟨enumL 0 xs, depOf x xs⟩
    | none => none
  | _ => none
def zipItm (M : Mem) : List AV → Option Itm
  | [x, y] => match lstOf M x, lstOf M y, tupOf x, tupOf y with
    | some xs, some ys, _, _ => some ⟨zipL xs ys, depOf x xs ++ depOf y ys⟩
    | none, none, some xs, some ys => some ⟨zipL xs ys, []⟩
    | _, _, _, _ => none
  | _ => none
def sItm (op : Mem → List AV → Option Itm) (l : SL) : SI := fun env M => (l env M).bind fun avs M1 => match op M1 avs with
  | some it => .ok it M1
  | none => .bad
theorem walk_enumA {K : PySem.W.Frag} {a : Addr} {n : Nat} : Walk (Ite K a) n (fun H => ∃ vs, SqL K H a vs ∧ vs.length = n)
    (fun i H v H' => ∃ T x, v = .ref T ∧ H T = none ∧ H' = upd H T (.tup [.int (i : Nat), x]) ∧ ∀ vs, SqL K H a vs → vs[i]? = some x) :=
  ⟨fun i H hi ⟨vs, q, e⟩ => ⟨vs, vs[i]'(by omega), q, by simp [e, hi]⟩, fun H ⟨vs, q, e⟩ => ⟨vs, q, by omega⟩, fun _ _ _ _ _ _ y => y⟩
theorem walk_zipL {K : PySem.W.Frag} {a b : Addr} {n m : Nat} : Walk (Itz K a b) (min n m) (fun H => ∃ vs us, SqL K H a vs ∧ SqL K H b us ∧ vs.length = n ∧ us.length = m)
    (fun i H v H' => ∃ T x y, v = .ref T ∧ H T = none ∧ H' = upd H T (.tup [x, y]) ∧ (∀ vs, SqL K H a vs → vs[i]? = some x) ∧ ∀ us, SqL K H b us → us[i]? = some y) :=
  ⟨fun i H hi ⟨vs, us, q, q2, e, e2⟩ => ⟨vs, us, vs[i]'(by omega), us[i]'(by omega), q, q2, by simp [show i < vs.length by omega], by simp [show i < us.length by omega]⟩,
    fun H ⟨vs, us, q, q2, e, e2⟩ => ⟨vs, us, q, q2, by omega⟩, fun _ _ _ _ _ _ y => y⟩
theorem walk_zipT {K : PySem.W.Frag} {a b : Addr} {n m : Nat} : Walk (RZ.ItzT K a b) (min n m) (fun H => ∃ vs us, SqT K H a vs ∧ SqT K H b us ∧ vs.length = n ∧ us.length = m)
    (fun i H v H' => ∃ T x y, v = .ref T ∧ H T = none ∧ H' = upd H T (.tup [x, y]) ∧ (∀ vs, SqT K H a vs → vs[i]? = some x) ∧ ∀ us, SqT K H b us → us[i]? = some y) :=
  ⟨fun i H hi ⟨vs, us, q, q2, e, e2⟩ => ⟨vs, us, vs[i]'(by omega), us[i]'(by omega), q, q2, by simp [show i < vs.length by omega], by simp [show i < us.length by omega]⟩,
    fun H ⟨vs, us, q, q2, e, e2⟩ => ⟨vs, us, q, q2, by omega⟩, fun _ _ _ _ _ _ y => y⟩
section
variable {G : Gm} {W Z B : Addr → Prop} {φ : List Addr} {H : Hp} {M : Mem}
/-- a new pair -/
theorem pair_new {x y : D} {v u : V} {T : Addr} (R : Rel G W Z φ M H) (hT : H T = none) (r1 : RD G (Bar W Z) H x v) (r2 : RD G (Bar W Z) H y u) :
    Rel G W Z φ M (upd H T (.tup [v, u])) ∧ Ext W H W (upd H T (.tup [v, u])) ∧ RD G (Bar W Z) (upd H T (.tup [v, u])) (.tup [x, y]) (.ref T) := by
  have x1 := Ext.laid R (o := .tup [v, u]) hT
  exact ⟨R.laid0 hT, x1, .tup (.inl ⟨upd_same, fun z => z.elim (fun z => R.wt T z hT) fun z => R.zt T z hT⟩) (.cons (r1.ext x1.bar) (.cons (r2.ext x1.bar) .nil))⟩
end
section
variable {X : Cx} {E : WX} {a b c e : Expr} {es : List Expr} {f g k : SE} {l : SL} {pos p tpos : Pos} {kk : Nat}
theorem gi_enum (hg : Gl X "enumerate") (hm : X.mg "enumerate" = none) (hs : starEach [a] X.env = [(false, eval a X.env)]) (hl : GL X E [a] l) : GI X E (.Tuple es kk tpos) (.Call (.Name "enumerate" p) [a] [] pos) (sItm enumItm l) :=
  PI.imp (pi_enum hg hm hl hs) fun σ H Q ⟨W, Z, φ, env, M, R, Er, h⟩ => ⟨W, Z, φ, env, M, R, Er, (RunI.bind h).imp fun vs H1 ⟨W1, M1, avs, e, R1, x1, r1, h2⟩ => by
    unfold enumItm at h2
    split at h2
    · rename_i it e2
      split at e2
      · obtain ⟨v, rfl, r⟩ := r1.one
        split at e2
        · rename_i xs el
          cases e2
          obtain ⟨p, rfl, ⟨vs, hq⟩, hL⟩ := lst_later R1 r el
          refine ⟨p, vs, rfl, hq, IR.run R1 h2 ⟨_, _, walk_enumA, fun Z' W ψ M H L => ?_, fun i y H' Z' W ψ M H L hi hy => ?_⟩⟩
          · obtain ⟨vs, h1, h2⟩ := hL _ Z' W ψ M H (fun _ z => z) L
            exact ⟨vs, h1, by rw [← h2.length]; exact (enumL_len xs 0).symm⟩
          · obtain ⟨vs, h1, h2⟩ := hL _ Z' W ψ M H (fun _ z => z) L
            obtain ⟨T, u, rfl, hT, rfl, hy⟩ := hy
            have hy := hy vs h1
            have hi : i < xs.length := by simpa [enumL_len] using hi
            obtain ⟨w, e1, r1⟩ := h2.get (show xs[i]? = some xs[i] by simp [hi])
            rw [hy] at e1; cases e1
            obtain ⟨p1, p2, p3⟩ := pair_new L.rel hT (.int (i : Int)) r1
            refine ⟨_, enumL_at (show xs[i]? = some xs[i] by simp [hi]), p1, p2, ?_⟩
            rw [Nat.zero_add]
            exact p3
        · cases e2
      · cases e2
    · exact h2.elim⟩
theorem gi_zip (hg : Gl X "zip") (hm : X.mg "zip" = none) (hp : ∀ {t : TA}, PA X [a, b] t → PI X (.Tuple es kk tpos) (.Call (.Name "zip" p) [a, b] [] pos) (RZ.iZipA X.K t)) (hl : GL X E [a, b] l) : GI X E (.Tuple es kk tpos) (.Call (.Name "zip" p) [a, b] [] pos) (sItm zipItm l) :=
  PI.imp (hp hl) fun σ H Q ⟨W, Z, φ, env, M, R, Er, h⟩ => ⟨W, Z, φ, env, M, R, Er, (RunI.bind h).imp fun vs H1 ⟨W1, M1, avs, e, R1, x1, r1, h2⟩ => by
    unfold zipItm at h2
    split at h2
    · rename_i it e2
      split at e2
      · obtain ⟨v, u, rfl, r, r'⟩ := r1.two
        split at e2
        · rename_i xs ys el el'
          cases e2
          obtain ⟨p, rfl, ⟨vs, hq⟩, hL⟩ := lst_later R1 r el
          obtain ⟨q, rfl, ⟨us, hq'⟩, hL'⟩ := lst_later R1 r' el'
          refine ⟨p, q, vs, us, rfl, .inl ⟨hq, hq', IR.run R1 h2 ⟨_, _, by show Walk _ (zipL xs ys).length _ _; rw [zipL_len]; exact walk_zipL, fun Z' W ψ M H L => ?_, fun i y H' Z' W ψ M H L hi hy => ?_⟩⟩⟩
          · obtain ⟨vs, h1, h2⟩ := hL _ Z' W ψ M H (fun _ z => List.mem_append_left _ z) L
            obtain ⟨us, h3, h4⟩ := hL' _ Z' W ψ M H (fun _ z => List.mem_append_right _ z) L
            exact ⟨vs, us, h1, h3, h2.length.symm, h4.length.symm⟩
          · obtain ⟨vs, h1, h2⟩ := hL _ Z' W ψ M H (fun _ z => List.mem_append_left _ z) L
            obtain ⟨us, h3, h4⟩ := hL' _ Z' W ψ M H (fun _ z => List.mem_append_right _ z) L
            obtain ⟨T, x, y, rfl, hT, rfl, hy, hy'⟩ := hy
            have hy := hy vs h1
            have hy' := hy' us h3
            have hi : i < min xs.length ys.length := by simpa [zipL_len] using hi
            have e1 : xs[i]? = some (xs[i]'(by omega)) := by simp [show i < xs.length by omega]
            have e2 : ys[i]? = some (ys[i]'(by omega)) := by simp [show i < ys.length by omega]
            obtain ⟨w, f1, r1⟩ := h2.get e1
            obtain ⟨w', f2, r2⟩ := h4.get e2
            rw [hy] at f1; cases f1
            rw [hy'] at f2; cases f2
            obtain ⟨p1, p2, p3⟩ := pair_new L.rel hT r1 r2
            exact ⟨_, zipL_at e1 e2, p1, p2, p3⟩
        · rename_i xs ys _ _ et et'
          cases e2
          obtain ⟨p, vs, rfl, t1, d1⟩ := tup_met r et
          obtain ⟨q, us, rfl, t2, d2⟩ := tup_met r' et'
          refine ⟨p, q, vs, us, rfl, .inr ⟨t1.sq, t2.sq, IR.run R1 h2 ⟨_, _, by show Walk _ (zipL xs ys).length _ _; rw [zipL_len]; exact walk_zipT, fun Z' W ψ M H L => ?_, fun i y H' Z' W ψ M H L hi hy => ?_⟩⟩⟩
          · exact ⟨vs, us, (t1.ext L.rd).sq, (t2.ext L.rd).sq, d1.length.symm, d2.length.symm⟩
          · obtain ⟨T, x, y, rfl, hT, rfl, hy, hy'⟩ := hy
            have hy := hy vs (t1.ext L.rd).sq
            have hy' := hy' us (t2.ext L.rd).sq
            have hi : i < min xs.length ys.length := by simpa [zipL_len] using hi
            have e1 : xs[i]? = some (xs[i]'(by omega)) := by simp [show i < xs.length by omega]
            have e2 : ys[i]? = some (ys[i]'(by omega)) := by simp [show i < ys.length by omega]
            obtain ⟨w, f1, r1⟩ := (d1.ext L.rd).get e1
            obtain ⟨w', f2, r2⟩ := (d2.ext L.rd).get e2
            rw [hy] at f1; cases f1
            rw [hy'] at f2; cases f2
            obtain ⟨p1, p2, p3⟩ := pair_new L.rel hT r1 r2
            exact ⟨_, zipL_at e1 e2, p1, p2, p3⟩
        · cases e2
      · cases e2
    · exact h2.elim⟩
end
end Mp

namespace Mp
open PySem L2

/-! ## list comprehensions -/
def wipeE (env : Env) : List Nat → Env
  | [] => env
  | v :: vs => (wipeE env vs).set v none
def compL (elt : SE) (cond : SB) (tg : Tg) (vs : List Nat) (deps : List (Nat × List D)) (env : Env) : List D → List D → Mem → Out AV
  | [], acc, M => if depsOk M deps = true then .ok (.fr acc) M else .bad
  | d :: r, acc, M => if depsOk M deps = true then
      match tg.bind d (wipeE env vs) with
      | none => .bad
      | some env' => match cond env' M with
        | .ok true M1 => match elt env' M1 with
          | .ok av M2 => match keepD av M2 with
            | some (x, M3) => if acc.length < sizeLine then compL elt cond tg vs deps env r (acc ++ [x]) M3 else .bad
            | none => .bad
          | _ => .bad
        | .ok false M1 => compL elt cond tg vs deps env r acc M1
        | _ => .bad
    else .bad
def sComp (it : SI) (tg : Tg) (cond : SB) (elt : SE) (vs : List Nat) : SE := fun env M => (it env M).bind fun itm M1 => compL elt cond tg vs itm.deps env itm.items [] M1
def sYes : SB := fun _ M => .ok true M
abbrev FW : WX := fun _ _ _ _ => False

theorem wipe_in {σ : St} {i : Nat} : ∀ {vs : List Nat}, i ∈ vs → i < σ.length → (wipe σ vs)[i]? = some none
  | v :: vs, h, hi => by
    unfold wipe
    by_cases e : v = i
    · subst e
      exact List.getElem?_set_self (by rw [wipe_length]; exact hi)
    · rw [List.getElem?_set_ne e]
      rcases List.mem_cons.mp h with h | h
      · exact absurd h.symm e
      · exact wipe_in h hi
theorem wipe_same {σ σ' : St} {vs : List Nat} (hl : σ'.length = σ.length) (h : ∀ j, j ∉ vs → σ'[j]? = σ[j]?) : wipe σ' vs = wipe σ vs := by
  apply List.ext_getElem?
  intro i
  by_cases hi : i ∈ vs
  · by_cases hl' : i < σ.length
    · rw [wipe_in hi hl', wipe_in hi (by omega)]
    · rw [List.getElem?_eq_none (by rw [wipe_length]; omega), List.getElem?_eq_none (by rw [wipe_length]; omega)]
  · rw [wipe_out hi, wipe_out hi]
    exact h i hi
theorem EnvR.wipe {G : Gm} {B : Addr → Prop} {φ : List Addr} {H : Hp} {env : Env} {σ : St} (h : EnvR G B φ H env σ) : ∀ vs : List Nat, EnvR G B φ H (wipeE env vs) (L2.wipe σ vs)
  | [] => h
  | v :: vs => by
    have ih := EnvR.wipe h vs
    refine ⟨by unfold wipeE L2.wipe; rw [List.length_set, List.length_set]; exact ih.len, fun i av e => ?_⟩
    unfold wipeE at e
    unfold L2.wipe
    by_cases hv : v = i
    · subst hv
      by_cases hi : v < (wipeE env vs).length
      · rw [List.getElem?_set_self hi] at e; cases e
      · rw [List.getElem?_eq_none (by rw [List.length_set]; omega)] at e; cases e
    · rw [List.getElem?_set_ne hv] at e
      obtain ⟨u, e1, r⟩ := ih.at_ i av e
      exact ⟨u, by rw [List.getElem?_set_ne hv]; exact e1, r⟩
theorem Tg.bind_cons {a b : Tg} {d : D} {env env' : Env} (h : (Tg.cons a b).bind d env = some env') : ∃ x r e, d = .tup (x :: r) ∧ a.bind x env = some e ∧ b.bind (.tup r) e = some env' := by
  cases d with
  | tup xs =>
    cases xs with
    | nil => cases h
    | cons x r =>
      unfold Tg.bind at h
      cases e1 : a.bind x env with
      | none => rw [e1] at h; cases h
      | some e => rw [e1] at h; exact ⟨x, r, e, rfl, e1, h⟩
  | _ => cases h
theorem Tg.bind_tup {a : Tg} {d : D} {env env' : Env} (h : (Tg.tup a).bind d env = some env') : ∃ r, d = .tup r ∧ a.bind (.tup r) env = some env' := by
  cases d with
  | tup xs => exact ⟨xs, rfl, h⟩
  | _ => cases h
theorem Tg.bind_nil {d : D} {env env' : Env} (h : Tg.nil.bind d env = some env') : d = .tup [] ∧ env' = env := by
  cases d with
  | tup xs =>
    cases xs with
    | nil => cases h; exact ⟨rfl, rfl⟩
    | cons x r => cases h
  | _ => cases h
theorem Tg.len : ∀ {t : Tg} {d : D} {env env' : Env}, t.bind d env = some env' → env'.length = env.length
  | .name i, d, env, env', h => by cases h; simp
  | .nil, d, env, env', h => by rw [(Tg.bind_nil h).2]
  | .cons a b, d, env, env', h => by
    obtain ⟨x, r, e, rfl, h1, h2⟩ := Tg.bind_cons h
    rw [Tg.len h2, Tg.len h1]
  | .tup a, d, env, env', h => by
    obtain ⟨r, rfl, h1⟩ := Tg.bind_tup h
    exact Tg.len h1
theorem wipeE_len (env : Env) : ∀ vs : List Nat, (wipeE env vs).length = env.length
  | [] => rfl
  | v :: vs => by unfold wipeE; rw [List.length_set, wipeE_len env vs]

section
variable {G : Gm} {W W' Z B B' : Addr → Prop} {φ : List Addr} {H H' : Hp} {M : Mem} {D : Addr} {o : HO}
/-- a barred object changes -/
theorem Ext.updBar (x : Ext B H B' H') (hb : B D) : Ext B H B' (upd H' D o) :=
  ⟨fun a u e n => ⟨by rw [upd_ne fun z => n (by rw [z]; exact hb)]; exact (x.keep a u e n).1, (x.keep a u e n).2⟩, fun a e => by
    by_cases z : a = D
    · rw [z, upd_same]; simp
    · rw [upd_ne z]; exact x.live a e⟩
theorem Ext.updNew (x : Ext B H B' H') (hn : H D = none) : Ext B H B' (upd H' D o) :=
  ⟨fun a u e n => ⟨by rw [upd_ne (ne_of_none e hn)]; exact (x.keep a u e n).1, (x.keep a u e n).2⟩, fun a e => by
    by_cases z : a = D
    · rw [z, upd_same]; simp
    · rw [upd_ne z]; exact x.live a e⟩
theorem Rel.updBar (R : Rel G W Z φ M H) (hz : Z D) : Rel G W Z φ M (upd H D o) := by
  have lv : ∀ a, H a ≠ none → upd H D o a ≠ none := fun a e => by
    by_cases z : a = D
    · rw [z, upd_same]; simp
    · rw [upd_ne z]; exact e
  refine ⟨R.len, R.nd, fun a w => lv a (R.wt a w), fun a z => lv a (R.zt a z), fun i p e => ⟨lv p (R.sep i p e).1, (R.sep i p e).2⟩, fun i p c e1 e2 => ?_⟩
  obtain ⟨w, r⟩ := R.cell i p c e1 e2
  have hp : p ≠ D := fun z => (R.sep i p e1).2 (by rw [z]; exact hz)
  exact ⟨w, r.ext (Ext.updBar (Ext.refl _ _) (.inr hz)) (upd_ne hp)⟩
end
theorem compL_deps {elt : SE} {cond : SB} {tg : Tg} {vs : List Nat} {deps : List (Nat × List D)} {env : Env} {M : Mem} (h : ¬ depsOk M deps = true) : ∀ (r acc : List D), compL elt cond tg vs deps env r acc M = .bad
  | [], _ => by unfold compL; rw [if_neg h]
  | _ :: _, _ => by unfold compL; rw [if_neg h]
theorem lc_read {G : Gm} {fi : SI} {t : Tg} {cond : SB} {fe : SE} {vs : List Nat} {E : WX} (hsl : ∀ j ∈ t.slots, j ∈ vs) (σ : St) (H : Hp) (Q : VK) (hh : rdE G (sComp fi t cond fe vs) E σ H Q) :
    tLc (rdI G fi E) (rdT G t) (rdB G cond FW) (rdE G fe FW) vs σ H Q := by
  obtain ⟨W, Z, φ, env, M, R, Er, h⟩ := hh
  refine ⟨W, Z, φ, env, M, R, Er, (Run.bind h).imp fun J H1 ⟨W1, M1, itm, e, R1, x1, ⟨Gd, Y, w, hG, hY⟩, h2⟩ => ?_⟩
  intro D hD
  have R1' := R1.laid (o := .lst []) hD
  refine lc_it w (fun i H' => ∃ Wi Mi acc us, Rel G Wi (add1 Z D) φ Mi H' ∧ Ext W1 H1 Wi H' ∧ H' D = some (.lst us) ∧ ¬ Bar Wi Z D ∧ RDs G (Bar Wi (add1 Z D)) H' acc us ∧
    Run G Z φ W1 H1 (compL fe cond t vs itm.deps env (itm.items.drop i) acc Mi) Q fun c d H' => E c d σ H') ?_ ?_ ?_ ?_
  · exact ⟨W1, M1, [], [], R1', Ext.laid R1 hD, upd_same, fun z => z.elim (fun z => R1.wt D z hD) fun z => R1.zt D z hD, .nil, h2⟩
  · rintro i H' _ ⟨Wi, Mi, acc, us, Ri, xi, hDi, nb, ra, hr⟩
    refine hG (add1 Z D) Wi [] Mi H' ⟨fun a z => z.imp id fun z => by rw [z]; exact hD, by simpa using Ri, xi, ?_⟩
    by_cases q : depsOk Mi itm.deps = true
    · exact q
    · rw [compL_deps q] at hr; exact hr.elim
  · rintro i x H' H'' hi ⟨Wi, Mi, acc, us, Ri, xi, hDi, nb, ra, hr⟩ hy
    by_cases q : depsOk Mi itm.deps = true
    · have L : Later G Z φ W1 H1 itm.deps (add1 Z D) Wi [] Mi H' := ⟨fun a z => z.imp id fun z => by rw [z]; exact hD, by simpa using Ri, xi, q⟩
      obtain ⟨d, hd, R2, x2, rd⟩ := hY i x H'' _ _ _ _ _ L hi hy
      rw [List.append_nil] at R2
      have ed : itm.items.drop i = d :: itm.items.drop (i + 1) := by
        obtain ⟨hl, e1⟩ := List.getElem?_eq_some_iff.mp hd
        rw [← e1]
        exact List.drop_eq_getElem_cons hl
      rw [ed] at hr
      unfold compL at hr
      rw [if_pos q] at hr
      cases eb : t.bind d (wipeE env vs) with
      | none => rw [eb] at hr; exact hr.elim
      | some env' =>
        rw [eb] at hr
        have L2' : Later G Z φ W1 H1 itm.deps (add1 Z D) Wi [] Mi H'' := ⟨L.bar, by simpa using R2, xi.trans x2, q⟩
        have Erw : EnvR G (Bar Wi (add1 Z D)) φ H'' (wipeE env vs) (wipe σ vs) := ((Er.ext x1.bar).ext L2'.rd).wipe vs
        refine ⟨Wi, add1 Z D, φ, wipeE env vs, Mi, d, env', R2, Erw, rd, eb, fun σ2 Er2 s2 => ⟨?_, ?_⟩⟩
        · have e1 : wipe (wipe σ vs) vs = wipe σ vs := wipe_same (wipe_length _ _) fun j hj => wipe_out hj
          rw [← e1]
          refine wipe_same ?_ fun j hj => s2 j fun z => hj (hsl j z)
          rw [← Er2.len, Tg.len eb, Erw.len]
        · refine ⟨Wi, add1 Z D, φ, env', Mi, R2, Er2, ?_⟩
          dsimp only at hr
          cases ec : cond env' Mi with
          | bad => rw [ec] at hr; exact hr.elim
          | exc _ _ => rw [ec] at hr; exact hr.elim
          | ok b M2 =>
            rw [ec] at hr
            intro W2 H3 b' R3 x3 eb'
            subst eb'
            have hD3 : H3 D = some (.lst us) := (x3.keep D _ (x2.keep D _ hDi fun z => nb (.inl z)).1 (x2.keep D _ hDi fun z => nb (.inl z)).2).1
            have nD3 : ¬ W2 D := (x3.keep D _ (x2.keep D _ hDi fun z => nb (.inl z)).1 (x2.keep D _ hDi fun z => nb (.inl z)).2).2
            have nZ : ¬ Z D := fun z => nb (.inr z)
            cases b with
            | false =>
              rw [if_neg Bool.false_ne_true]
              exact ⟨W2, M2, acc, us, R3, (xi.trans x2).trans x3, hD3, fun z => z.elim nD3 nZ, (ra.ext x2.bar).ext x3.bar, hr⟩
            | true =>
              rw [if_pos rfl]
              refine ⟨W2, add1 Z D, φ, env', M2, R3, Er2.ext x3.bar, ?_⟩
              dsimp only at hr
              cases ee : fe env' M2 with
              | bad => rw [ee] at hr; exact hr.elim
              | exc _ _ => rw [ee] at hr; exact hr.elim
              | ok av M3 =>
                rw [ee] at hr
                intro W3 H4 y R4 x4 vr
                dsimp only at hr
                cases ek : keepD av M3 with
                | none => rw [ek] at hr; exact hr.elim
                | some xM =>
                  obtain ⟨d', M4⟩ := xM
                  rw [ek] at hr
                  dsimp only at hr
                  split at hr
                  · rename_i hlt
                    obtain ⟨W4, R5, l4, rd'⟩ := keep_ok R4 vr.sr ek
                    have hD4 := x4.keep D _ hD3 nD3
                    refine ⟨us, hD4.1, ?_, W4, M4, acc ++ [d'], us ++ [y], R5.updBar (.inr rfl), ?_, upd_same, fun z => z.elim (fun z => hD4.2 (l4 D z)) nZ, ?_, hr⟩
                    · rw [← ra.length]; exact hlt
                    · exact Ext.updNew (((xi.trans x2).trans x3).trans (x4.trans (Ext.less l4))) hD
                    · refine RDs.append ?_ (.cons ?_ .nil)
                      · exact ((ra.ext x2.bar).ext x3.bar).ext (Ext.updBar (x4.trans (Ext.less l4)).bar (.inr (.inr rfl)))
                      · exact rd'.ext (Ext.updBar (Ext.refl _ _) (.inr (.inr rfl)))
                  · exact hr.elim
    · rw [compL_deps q] at hr; exact hr.elim
  · rintro H' ⟨Wi, Mi, acc, us, Ri, xi, hDi, nb, ra, hr⟩
    rw [List.drop_length] at hr
    unfold compL at hr
    split at hr
    · refine hr Wi H' (.ref D) Ri.unbar xi ⟨D, us, rfl, hD, hDi, nb, ra.less fun a z => ?_, Ri⟩
      rcases z with (z | z) | z
      · exact .inl z
      · exact .inr (.inl z)
      · exact .inr (.inr z)
    · exact hr.elim
section
variable {X : Cx} {E : WX} {elt tgE iter : Expr} {ifs : List Expr} {fi : SI} {t : Tg} {cond : SB} {fe : SE} {scope : Scope} {own : List (Str × Nat)} {pos : Pos}
theorem gts_nil {Y : Cx} {E : WX} : PTs Y [] (rdB (gm Y) sYes E) := ⟨fun pins s σ H Q I ⟨W, Z, φ, env, M, R, Er, h⟩ => pts_nil.run pins s σ H Q I (RunB.ok R h)⟩
theorem gts_one {Y : Cx} {E : WX} {c : Expr} {p : SB} (h : GB Y E c p) : PTs Y [c] (rdB (gm Y) p E) := pts_one h
theorem ge_comp (hc : X.calm = true) (hN : X.N.Nodup) (hi : GI X E tgE iter fi) (ok : BlkOk X.N X.env.scope scope own)
    (hg : ∀ (s : Shared) (H : Hp) (C : Addr) (cl : List (Str × Addr)) (fp : List Addr), PG (X.blk s H scope (compEnvC scope cl C X.env) fp) tgE (rdT (gm X) t))
    (ht : ∀ (s : Shared) (H : Hp) (C : Addr) (cl : List (Str × Addr)) (fp : List Addr), PTs (X.blk s H scope (compEnvC scope cl C X.env) fp) ifs (rdB (gm X) cond FW))
    (he : ∀ (s : Shared) (H : Hp) (C : Addr) (cl : List (Str × Addr)) (fp : List Addr), GE (X.blk s H scope (compEnvC scope cl C X.env) fp) FW elt fe)
    (hs : ∀ x, foldedSetIterable iter X.env x = pure x) (hsl : ∀ j ∈ t.slots, j ∈ own.map (·.2)) : GE X E (.ListComp elt [⟨tgE, iter, ifs, 0⟩] scope pos) (sComp fi t cond fe (own.map (·.2))) :=
  PE.imp (pe_lc hc hN hi ok hg ht he hs) fun σ H Q h => lc_read hsl σ H Q h
end
end Mp

namespace Mp
open PySem L2

/-! ## statements -/
inductive Fl where
  | next (e : Env) | ret (v : AV) | brk (e : Env) | cont (e : Env)
abbrev SS := Env → Mem → Out Fl
structure Fin (G : Gm) (Z : Addr → Prop) (φ : List Addr) (W : Addr → Prop) (H : Hp) (M' : Mem) (W' : Addr → Prop) (ψ : List Addr) (H' : Hp) : Prop where
  rel : Rel G W' Z (φ ++ ψ) M' H'
  ext : Ext W H W' H'
  new : ∀ p ∈ ψ, H p = none
def RunS (G : Gm) (Z : Addr → Prop) (φ : List Addr) (W : Addr → Prop) (H : Hp) (n : Nat) (r : Out Fl) (D : Ends) (E : WX) : Prop :=
  match r with
  | .ok (.next e) M' => ∀ W' ψ H' σ', Fin G Z φ W H M' W' ψ H' → EnvR G (Bar W' Z) (φ ++ ψ) H' e σ' → σ'.length = n → D.nx σ' H'
  | .ok (.brk e) M' => ∀ W' ψ H' σ', Fin G Z φ W H M' W' ψ H' → EnvR G (Bar W' Z) (φ ++ ψ) H' e σ' → σ'.length = n → D.bk σ' H'
  | .ok (.cont e) M' => ∀ W' ψ H' σ', Fin G Z φ W H M' W' ψ H' → EnvR G (Bar W' Z) (φ ++ ψ) H' e σ' → σ'.length = n → D.ct σ' H'
  | .ok (.ret av) M' => ∀ W' ψ H' v, Fin G Z φ W H M' W' ψ H' → VR G W' Z (φ ++ ψ) H H' M' av v → D.rt v H'
  | .exc e M' => ∀ W' ψ H' c d σ', Fin G Z φ W H M' W' ψ H' → XR G (Bar W' Z) H' e c d → σ'.length = n → E c d σ' H'
  | .bad => False
def rdS (G : Gm) (f : SS) (E : WX) : TS := fun D σ H => ∃ W Z φ env M, Rel G W Z φ M H ∧ EnvR G (Bar W Z) φ H env σ ∧ RunS G Z φ W H σ.length (f env M) D E
abbrev GS (X : Cx) (E : WX) (st : Stmt) (f : SS) : Prop := PS X st (rdS (gm X) f E)
abbrev GSs (X : Cx) (E : WX) (st : List Stmt) (f : SS) : Prop := PSs X st (rdS (gm X) f E)

section
variable {G : Gm} {W W1 Z : Addr → Prop} {φ ψ : List Addr} {H H1 : Hp} {M M1 : Mem} {env : Env} {σ : St} {D : Ends} {E : WX} {n : Nat}
theorem Fin.refl (R : Rel G W Z φ M H) : Fin G Z φ W H M W [] H := ⟨by simpa using R, Ext.refl _ _, fun _ h => by cases h⟩
theorem Fin.trans {W' : Addr → Prop} {ψ' : List Addr} {H' : Hp} {M' : Mem} (a : Fin G Z φ W H M1 W1 ψ H1) (b : Fin G Z (φ ++ ψ) W1 H1 M' W' ψ' H') : Fin G Z φ W H M' W' (ψ ++ ψ') H' :=
  ⟨by rw [← List.append_assoc]; exact b.rel, a.ext.trans b.ext, fun p hp => (List.mem_append.mp hp).elim (a.new p) fun hp => a.ext.fresh (b.new p hp)⟩
theorem Fin.of {M' : Mem} (R : Rel G W1 Z φ M' H1) (x : Ext W H W1 H1) : Fin G Z φ W H M' W1 [] H1 := ⟨by simpa using R, x, fun _ h => by cases h⟩
theorem VR.back' {W' : Addr → Prop} {M' : Mem} {av : AV} {v : V} {H' : Hp} (h : VR G W' Z φ H1 H' M' av v) (x : ∀ p, H1 p = none → H p = none) : VR G W' Z φ H H' M' av v := by
  cases av with
  | fr xs => obtain ⟨p, vs, e, h0, r⟩ := h; exact ⟨p, vs, e, x p h0, r⟩
  | _ => exact h
theorem RunS.later {r : Out Fl} (h : RunS G Z φ W H n r D E) (x : Fin G Z φ W H M1 W1 ψ H1) : RunS G Z (φ ++ ψ) W1 H1 n r D E := by
  cases r with
  | bad => exact h
  | exc e M' => exact fun W' ψ' H' c d σ' f q l => h W' (ψ ++ ψ') H' c d σ' (x.trans f) q l
  | ok fl M' =>
    cases fl with
    | next e => exact fun W' ψ' H' σ' f q l => h W' (ψ ++ ψ') H' σ' (x.trans f) (by rw [← List.append_assoc]; exact q) l
    | brk e => exact fun W' ψ' H' σ' f q l => h W' (ψ ++ ψ') H' σ' (x.trans f) (by rw [← List.append_assoc]; exact q) l
    | cont e => exact fun W' ψ' H' σ' f q l => h W' (ψ ++ ψ') H' σ' (x.trans f) (by rw [← List.append_assoc]; exact q) l
    | ret av => exact fun W' ψ' H' v f q => h W' (ψ ++ ψ') H' v (x.trans f) (by rw [← List.append_assoc]; exact q.back' fun p e => x.ext.fresh e)
theorem RunS.later0 {r : Out Fl} (h : RunS G Z φ W H n r D E) (x : Ext W H W1 H1) : RunS G Z φ W1 H1 n r D E := by
  cases r with
  | bad => exact h
  | exc e M' => exact fun W' ψ' H' c d σ' f q l => h W' ψ' H' c d σ' ⟨f.rel, x.trans f.ext, fun p hp => x.fresh (f.new p hp)⟩ q l
  | ok fl M' =>
    cases fl with
    | next e => exact fun W' ψ' H' σ' f q l => h W' ψ' H' σ' ⟨f.rel, x.trans f.ext, fun p hp => x.fresh (f.new p hp)⟩ q l
    | brk e => exact fun W' ψ' H' σ' f q l => h W' ψ' H' σ' ⟨f.rel, x.trans f.ext, fun p hp => x.fresh (f.new p hp)⟩ q l
    | cont e => exact fun W' ψ' H' σ' f q l => h W' ψ' H' σ' ⟨f.rel, x.trans f.ext, fun p hp => x.fresh (f.new p hp)⟩ q l
    | ret av => exact fun W' ψ' H' v f q => h W' ψ' H' v ⟨f.rel, x.trans f.ext, fun p hp => x.fresh (f.new p hp)⟩ (q.back' fun p e => x.fresh e)
/-- an expression first, then the rest of a statement -/
theorem RunS.bind {α β : Type} {R : (Addr → Prop) → Hp → Mem → α → β → Prop} {r : Out α} {k : α → Mem → Out Fl} (h : RunS G Z φ W H n (r.bind k) D E) :
    RunG R G Z φ W H r (fun v H1 => ∃ W1 M1 a, r = .ok a M1 ∧ Rel G W1 Z φ M1 H1 ∧ Ext W H W1 H1 ∧ R W1 H1 M1 a v ∧ RunS G Z φ W1 H1 n (k a M1) D E) (fun c d H' => ∀ σ' : St, σ'.length = n → E c d σ' H') := by
  cases r with
  | ok a M' => exact fun W' H' v R1 y z => ⟨W', M', a, rfl, R1, y, z, RunS.later0 h y⟩
  | exc e M' => exact fun W' H' c d R1 y z σ' l => h W' [] H' c d σ' (Fin.of R1 y) z l
  | bad => exact h
theorem RunS.bind0 {α β : Type} {R : (Addr → Prop) → Hp → Mem → α → β → Prop} {r : Out α} {k : α → Mem → Out Fl} (h : RunS G Z φ W H n (r.bind k) D E) :
    RunG R G Z φ W H r (fun v H1 => ∃ W1 M1 a, r = .ok a M1 ∧ Rel G W1 Z φ M1 H1 ∧ Ext W H W1 H1 ∧ R W1 H1 M1 a v ∧ RunS G Z φ W H n (k a M1) D E) (fun c d H' => ∀ σ' : St, σ'.length = n → E c d σ' H') := by
  cases r with
  | ok a M' => exact fun W' H' v R1 y z => ⟨W', M', a, rfl, R1, y, z, h⟩
  | exc e M' => exact fun W' H' c d R1 y z σ' l => h W' [] H' c d σ' (Fin.of R1 y) z l
  | bad => exact h
theorem RunG.imp2 {α β : Type} {R : (Addr → Prop) → Hp → Mem → α → β → Prop} {r : Out α} {Q Q' : β → Hp → Prop} {E E' : XK} (h : RunG R G Z φ W H r Q E) (k : ∀ v H, Q v H → Q' v H) (k2 : ∀ c d H, E c d H → E' c d H) : RunG R G Z φ W H r Q' E' := by
  cases r with
  | ok a M' => exact fun W' H' v R y z => k _ _ (h W' H' v R y z)
  | exc e M' => exact fun W' H' c d R y z => k2 _ _ _ (h W' H' c d R y z)
  | bad => exact h
theorem RunS.next {e : Env} (R : Rel G W Z φ M H) (h : RunS G Z φ W H n (.ok (.next e) M) D E) (q : EnvR G (Bar W Z) φ H e σ) (l : σ.length = n) : D.nx σ H :=
  h W [] H σ (Fin.refl R) (by simpa using q) l
end

def sSkip : SS := fun env M => .ok (.next env) M
def sSeq2 (f g : SS) : SS := fun env M => (f env M).bind fun fl M1 => match fl with
  | .next e => g e M1
  | fl => .ok fl M1
def sRet (f : SE) : SS := fun env M => (f env M).bind fun x M1 => .ok (.ret x) M1
def sRetN : SS := fun _ M => .ok (.ret (.d .non)) M
def sExpr (f : SE) : SS := fun env M => (f env M).bind fun _ M1 => .ok (.next env) M1
def sIfS (c : SB) (f g : SS) : SS := fun env M => (c env M).bind fun b M1 => if b = true then f env M1 else g env M1
/-- a value stored in a name; m: a new list is to be changed later -/
def asgAV (i : Nat) (m : Bool) (x : AV) (env : Env) (M : Mem) : Env × Mem := match x, m with
  | .fr xs, true => (env.set i (some (.cell M.length)), M ++ [some (.l xs)])
  | x, _ => (env.set i (some x.settle), M)
def sAsg (i : Nat) (m : Bool) (f : SE) : SS := fun env M => (f env M).bind fun x M1 => .ok (.next (asgAV i m x env M1).1) (asgAV i m x env M1).2
def sAsgT (t : Tg) (f : SE) : SS := fun env M => (f env M).bind fun x M1 => match x with
  | .d d => match t.bind d env with
    | some e => .ok (.next e) M1
    | none => .bad
  | _ => .bad
def sBrk : SS := fun env M => .ok (.brk env) M
def sCont : SS := fun env M => .ok (.cont env) M

section
variable {G : Gm} {W W1 Z : Addr → Prop} {φ ψ : List Addr} {H H₀ H1 : Hp} {M M1 : Mem} {env : Env} {σ : St} {De : Ends} {E : WX} {n : Nat}
/-- a new list becomes a cell -/
theorem thaw {xs : List D} {v : V} (R : Rel G W Z φ M H) (r : VR G W Z φ H₀ H M (.fr xs) v) (x : ∀ a, H₀ a ≠ none → H a ≠ none) :
    ∃ p, v = .ref p ∧ H₀ p = none ∧ Rel G (add1 W p) Z (φ ++ [p]) (M ++ [some (.l xs)]) H ∧ ∀ a o, H₀ a = some o → ¬ W a → ¬ add1 W p a := by
  obtain ⟨p, vs, rfl, h0, hp, nb, rd, R2⟩ := r
  have hnp : ∀ i : Nat, φ[i]? ≠ some p := fun i e => (R2.sep i p e).2 (.inr rfl)
  have hb : ∀ a, Bar (add1 W p) Z a → Bar W (add1 Z p) a := fun a z => by
    rcases z with (z | z) | z
    · exact .inl z
    · exact .inr (.inr z)
    · exact .inr (.inl z)
  refine ⟨p, rfl, h0, ⟨by simp [R.len], ?_, fun a z => z.elim (R.wt a) fun z => by subst z; rw [hp]; simp, R.zt, fun i q e => ?_, fun i q c e1 e2 => ?_⟩, fun a o e n z => z.elim n fun z => by subst z; rw [h0] at e; cases e⟩
  · rw [List.nodup_append]
    refine ⟨R.nd, by simp, fun a ha b hb e => ?_⟩
    obtain ⟨i, hi⟩ := List.getElem?_of_mem ha
    simp at hb
    subst hb; subst e
    exact hnp i hi
  · by_cases hi : i < φ.length
    · rw [List.getElem?_append_left hi] at e
      exact R.sep i q e
    · rw [List.getElem?_append_right (by omega)] at e
      have hq : q = p := by
        cases h : i - φ.length with
        | zero => rw [h] at e; simpa using e.symm
        | succ k => rw [h] at e; simp at e
      subst hq
      exact ⟨by rw [hp]; simp, fun z => nb (.inr z)⟩
  · by_cases hi : i < φ.length
    · rw [List.getElem?_append_left hi] at e1
      rw [List.getElem?_append_left (by rw [← R.len]; exact hi)] at e2
      obtain ⟨w, r⟩ := R2.cell i q c e1 e2
      exact ⟨.inl w, r.ext (Ext.less hb) rfl⟩
    · rw [List.getElem?_append_right (by omega)] at e1
      rw [List.getElem?_append_right (by rw [← R.len]; omega), ← R.len] at e2
      cases h : i - φ.length with
      | zero =>
        rw [h] at e1 e2
        simp at e1 e2
        subst e1; subst e2
        refine ⟨.inr rfl, vs, hp, rd.less fun a z => ?_⟩
        rcases z with (z | z) | z
        · exact .inl (.inl z)
        · exact .inr z
        · exact .inl (.inr z)
      | succ k => rw [h] at e1; simp at e1
/-- storing a value -/
theorem asg_run {i : Nat} {m : Bool} {x : AV} {v : V} (R : Rel G W1 Z φ M1 H1) (Er : EnvR G (Bar W1 Z) φ H1 env σ) (r : VR G W1 Z φ H H1 M1 x v) (y : Ext W H W1 H1)
    (h : RunS G Z φ W H n (.ok (.next (asgAV i m x env M1).1) (asgAV i m x env M1).2) De E) (l : σ.length = n) (Er0 : EnvR G (Bar W Z) φ H env σ) : De.nx (σ.set i (some v)) H1 := by
  have plain : asgAV i m x env M1 = (env.set i (some x.settle), M1) → De.nx (σ.set i (some v)) H1 := fun e => by
    rw [e] at h
    exact h W1 [] H1 _ (Fin.of R y) (by simpa using Er.set r.sr.settle i) (by simpa using l)
  cases x with
  | fr xs =>
    cases m with
    | false => exact plain rfl
    | true =>
      obtain ⟨p, rfl, h0, R2, hk⟩ := thaw R r y.live
      have x2 : Ext W H (add1 W1 p) H1 := ⟨fun a o e n => ⟨(y.keep a o e n).1, fun z => z.elim (y.keep a o e n).2 fun z => by subst z; rw [h0] at e; cases e⟩, y.live⟩
      refine h (add1 W1 p) [p] H1 _ ⟨R2, x2, fun q hq => by simp at hq; subst hq; exact h0⟩ ?_ (by simpa using l)
      have Er2 := (Er0.ext x2.bar).app [p]
      refine Er2.set (av := .cell M1.length) ⟨p, ?_, rfl⟩ i
      rw [← R.len]
      simp
  | d y => exact plain (by cases m <;> rfl)
  | cell y => exact plain (by cases m <;> rfl)
  | scr y => exact plain (by cases m <;> rfl)
end
section
variable {X : Cx} {E : WX} {e a b : Expr} {f g : SE} {s t : SS} {c : Expr} {p : SB} {st : Stmt} {rest sts sts' : List Stmt} {pos : Pos}
theorem PS.imp {t t' : TS} (h : PS X st t) (k : ∀ D σ H, t' D σ H → t D σ H) : PS X st t' := ⟨fun pins s σ H D I q => h.run pins s σ H D I (k D σ H q)⟩
theorem PSs.imp {t t' : TS} (h : PSs X sts t) (k : ∀ D σ H, t' D σ H → t D σ H) : PSs X sts t' := ⟨fun pins s σ H D I q => h.run pins s σ H D I (k D σ H q)⟩
theorem gs_nil : GSs X E [] sSkip := PSs.imp pss_nil fun D σ H ⟨W, Z, φ, env, M, R, Er, h⟩ => RunS.next R h Er rfl
/-- what a statement's outcome binds -/
theorem seq_run {G : Gm} {W Z : Addr → Prop} {φ : List Addr} {H : Hp} {n : Nat} {r : Out Fl} {D : Ends} {k : SS} (h : RunS G Z φ W H n (r.bind fun fl M1 => match fl with | .next e => k e M1 | fl => .ok fl M1) D E) :
    RunS G Z φ W H n r { D with nx := fun σ H => ∀ _ : σ.length = n, rdS G k E D σ H } E := by
  cases r with
  | bad => exact h
  | exc e M' => exact h
  | ok fl M' =>
    cases fl with
    | next e => exact fun W' ψ H' σ' x q l _ => ⟨W', Z, φ ++ ψ, e, M', x.rel, q, by rw [l]; exact RunS.later h x⟩
    | ret av => exact h
    | brk e => exact h
    | cont e => exact h
theorem RunS.imp {G : Gm} {W Z : Addr → Prop} {φ : List Addr} {H : Hp} {n : Nat} {r : Out Fl} {D D' : Ends} (h : RunS G Z φ W H n r D E) (k1 : ∀ σ H, σ.length = n → D.nx σ H → D'.nx σ H) (k2 : ∀ v H, D.rt v H → D'.rt v H)
    (k3 : ∀ σ H, σ.length = n → D.bk σ H → D'.bk σ H) (k4 : ∀ σ H, σ.length = n → D.ct σ H → D'.ct σ H) : RunS G Z φ W H n r D' E := by
  cases r with
  | bad => exact h
  | exc e M' => exact h
  | ok fl M' =>
    cases fl with
    | next e => exact fun W' ψ H' σ' x q l => k1 _ _ l (h W' ψ H' σ' x q l)
    | ret av => exact fun W' ψ H' v x q => k2 _ _ (h W' ψ H' v x q)
    | brk e => exact fun W' ψ H' σ' x q l => k3 _ _ l (h W' ψ H' σ' x q l)
    | cont e => exact fun W' ψ H' σ' x q l => k4 _ _ l (h W' ψ H' σ' x q l)
theorem gs_cons (h1 : GS X E st s) (h2 : GSs X E rest t) : GSs X E (st :: rest) (sSeq2 s t) :=
  PSs.imp (pss_cons h1 h2) fun D σ H ⟨W, Z, φ, env, M, R, Er, h⟩ =>
    ⟨W, Z, φ, env, M, R, Er, (seq_run (k := t) h).imp (fun σ' H' l q => q l) (fun _ _ q => q) (fun _ _ _ q => q) (fun _ _ _ q => q)⟩
theorem gs_ret (he : GE X E e f) : GS X E (.Return (some e) pos) (sRet f) :=
  PS.imp (ps_ret he) fun D σ H ⟨W, Z, φ, env, M, R, Er, h⟩ => ⟨W, Z, φ, env, M, R, Er,
    (RunS.bind0 h).imp2 (fun v H1 ⟨W1, M1, x, _, R1, x1, r1, h2⟩ => h2 W1 [] H1 v (Fin.of R1 x1) (by simpa using r1)) (fun c d H' q => q σ rfl)⟩
theorem gs_retN : GS X E (.Return none pos) sRetN :=
  PS.imp ps_retN fun D σ H ⟨W, Z, φ, env, M, R, Er, h⟩ => h W [] H .non (Fin.refl R) (by show RD _ _ _ _ _; exact .non)
theorem gs_expr (he : GE X E e f) (hs : swapsWith e none pos.line X.env = pure false) : GS X E (.Expr e pos) (sExpr f) :=
  PS.imp (ps_expr he hs) fun D σ H ⟨W, Z, φ, env, M, R, Er, h⟩ => ⟨W, Z, φ, env, M, R, Er,
    (RunS.bind h).imp2 (fun v H1 ⟨W1, M1, x, _, R1, x1, r1, h2⟩ => RunS.next R1 h2 (Er.ext x1.bar) rfl) (fun c d H' q => q σ rfl)⟩
theorem gs_if (hc : GB X E c p) (ha : GSs X E sts s) (hb : GSs X E sts' t) : GS X E (.If c sts sts' pos) (sIfS p s t) :=
  PS.imp (ps_if hc ha hb) fun D σ H ⟨W, Z, φ, env, M, R, Er, h⟩ => ⟨W, Z, φ, env, M, R, Er,
    (RunS.bind h).imp2 (fun v H1 ⟨W1, M1, x, _, R1, x1, r1, h2⟩ => by
      subst r1
      cases x with
      | true => exact ⟨W1, Z, φ, env, M1, R1, Er.ext x1.bar, h2⟩
      | false => exact ⟨W1, Z, φ, env, M1, R1, Er.ext x1.bar, h2⟩) (fun c d H' q => q σ rfl)⟩
/-- from an expression's value to the name -/
theorem asg_read {G : Gm} {i : Nat} {m : Bool} (D : Ends) (σ : St) (H : Hp) : rdS G (sAsg i m f) E D σ H → tAsg (rdE G f E) (gName i) D σ H := fun ⟨W, Z, φ, env, M, R, Er, h⟩ => ⟨W, Z, φ, env, M, R, Er,
    (RunS.bind0 h).imp2 (fun v H1 ⟨W1, M1, x, _, R1, x1, r1, h2⟩ => asg_run R1 (Er.ext x1.bar) r1 x1 h2 rfl Er) (fun c d H' q => q σ rfl)⟩
theorem gs_asg {i : Nat} {x : Str} {m : Bool} {pos' : Pos} (hN : X.N.Nodup) (hi : X.N[i]? = some x) (hx : Loc X.env.scope x) (he : GE X E e f) (hs : swapsWith e (some (.Name x pos')) pos.line X.env = pure false)
    (hf : X.fn x = true ∨ X.env.scope.names.lookup x = some .local) : GS X E (.Assign [.Name x pos'] e pos) (sAsg i m f) :=
  PS.imp (ps_set hN hi hx he hs hf) fun D σ H h => asg_read D σ H h
theorem gs_asgT {tg : Expr} {t : Tg} (he : GE X E e f) (hg : PG X tg (rdT (gm X) t)) (hs : swapsWithSole [tg] e pos.line X.env = pure false) (hw : swappedStores [tg] e X.env = pure none) (h1 : (assignEach [tg] X.env).map (·.2) = [assign tg X.env]) :
    GS X E (.Assign [tg] e pos) (sAsgT t f) :=
  PS.imp (ps_asg he hg hs hw h1) fun D σ H ⟨W, Z, φ, env, M, R, Er, h⟩ => ⟨W, Z, φ, env, M, R, Er,
    (RunS.bind h).imp2 (fun v H1 ⟨W1, M1, x, _, R1, x1, r1, h2⟩ => by
      cases x with
      | d y =>
        dsimp only at h2
        cases e1 : t.bind y env with
        | none => rw [e1] at h2; exact h2.elim
        | some env' =>
          rw [e1] at h2
          exact ⟨W1, Z, φ, env, M1, y, env', R1, Er.ext x1.bar, r1, e1, fun σ' Er' _ => RunS.next R1 h2 Er' (by rw [← Er'.len, Tg.len e1, Er.len])⟩
      | _ => exact h2.elim) (fun c d H' q => q σ rfl)⟩
theorem gs_brk : GS X E (.Break pos) sBrk := PS.imp ps_break fun D σ H ⟨W, Z, φ, env, M, R, Er, h⟩ => h W [] H σ (Fin.refl R) (by simpa using Er) rfl
theorem gs_cont : GS X E (.Continue pos) sCont := PS.imp ps_continue fun D σ H ⟨W, Z, φ, env, M, R, Er, h⟩ => h W [] H σ (Fin.refl R) (by simpa using Er) rfl
theorem gs_pass : GS X E (.Pass pos) sSkip := PS.imp ps_pass fun D σ H ⟨W, Z, φ, env, M, R, Er, h⟩ => RunS.next R h Er rfl
end
end Mp

namespace Mp
open PySem L2

/-! ## loops -/
def forL (body : SS) (tg : Tg) (deps : List (Nat × List D)) : List D → Env → Mem → Out Fl
  | [], env, M => if depsOk M deps = true then .ok (.next env) M else .bad
  | d :: r, env, M => if depsOk M deps = true then
      match tg.bind d env with
      | none => .bad
      | some e => (body e M).bind fun fl M' => match fl with
        | .next e' => forL body tg deps r e' M'
        | .cont e' => forL body tg deps r e' M'
        | .brk e' => .ok (.next e') M'
        | .ret v => .ok (.ret v) M'
    else .bad
def sFor (it : SI) (tg : Tg) (body : SS) : SS := fun env M => (it env M).bind fun itm M1 => forL body tg itm.deps itm.items env M1
def whileF (c : SB) (body : SS) : Nat → Env → Mem → Out Fl
  | 0, _, _ => .bad
  | n + 1, env, M => (c env M).bind fun b M1 => if b = true then
      (body env M1).bind fun fl M' => match fl with
        | .next e' => whileF c body n e' M'
        | .cont e' => whileF c body n e' M'
        | .brk e' => .ok (.next e') M'
        | .ret v => .ok (.ret v) M'
    else .ok (.next env) M1
@[irreducible] def bigF : Nat := 2 ^ 4096
def sWhile (c : SB) (body : SS) : SS := fun env M => whileF c body bigF env M

theorem forL_deps {body : SS} {tg : Tg} {deps : List (Nat × List D)} {M : Mem} (h : ¬ depsOk M deps = true) : ∀ (r : List D) (env : Env), forL body tg deps r env M = .bad
  | [], _ => by unfold forL; rw [if_neg h]
  | _ :: _, _ => by unfold forL; rw [if_neg h]
section
variable {X : Cx} {E : WX} {tg iter c : Expr} {body : List Stmt} {fi : SI} {t : Tg} {s : SS} {p : SB} {pos : Pos}
theorem gs_for (hp : PassesOwn (model X.prog X.w) X.A X.env X.xe) (hc : X.calm = true) (hi : GI X E tg iter fi) (hg : PG X tg (rdT (gm X) t)) (hb : GSs X E body s) (hs : ∀ x, foldedSetIterable iter X.env x = pure x) :
    GS X E (.For tg iter body [] pos) (sFor fi t s) :=
  PS.imp (ps_for hp hc hi hg hb hs) fun De σ H ⟨W, Z, φ, env, M, R, Er, h⟩ => ⟨W, Z, φ, env, M, R, Er, (RunS.bind h).imp2 (fun J H1 ⟨W1, M1, itm, e, R1, x1, ⟨Gd, Y, w, hG, hY⟩, h2⟩ => by
    refine for_it w (fun i σ' H' => ∃ Wi ψ Mi env', Rel (gm X) Wi Z (φ ++ ψ) Mi H' ∧ EnvR (gm X) (Bar Wi Z) (φ ++ ψ) H' env' σ' ∧ σ'.length = σ.length ∧ Ext W1 H1 Wi H' ∧ (∀ p ∈ ψ, H1 p = none) ∧
      RunS (gm X) Z φ W1 H1 σ.length (forL s t itm.deps (itm.items.drop i) env' Mi) De E) ?_ ?_ ?_ ?_
    · exact ⟨W1, [], M1, env, by simpa using R1, by simpa using Er.ext x1.bar, rfl, Ext.refl _ _, (fun _ h => by cases h), h2⟩
    · rintro i σ' H' _ ⟨Wi, ψ, Mi, env', Ri, Ei, l, xi, nw, hr⟩
      refine hG Z Wi ψ Mi H' ⟨fun a z => .inl z, Ri, xi, ?_⟩
      by_cases q : depsOk Mi itm.deps = true
      · exact q
      · rw [forL_deps q] at hr; exact hr.elim
    · rintro i x σ' H' H'' hi ⟨Wi, ψ, Mi, env', Ri, Ei, l, xi, nw, hr⟩ hy
      by_cases q : depsOk Mi itm.deps = true
      · obtain ⟨d, hd, R2, x2, rd⟩ := hY i x H'' Z Wi ψ Mi H' ⟨fun a z => .inl z, Ri, xi, q⟩ hi hy
        have ed : itm.items.drop i = d :: itm.items.drop (i + 1) := by
          obtain ⟨hl, e1⟩ := List.getElem?_eq_some_iff.mp hd
          rw [← e1]
          exact List.drop_eq_getElem_cons hl
        rw [ed] at hr
        unfold forL at hr
        rw [if_pos q] at hr
        cases eb : t.bind d env' with
        | none => rw [eb] at hr; exact hr.elim
        | some e2 =>
          rw [eb] at hr
          refine ⟨Wi, Z, φ ++ ψ, env', Mi, d, e2, R2, Ei.ext x2.bar, rd, eb, fun σ2 Er2 s2 => ⟨Wi, Z, φ ++ ψ, e2, Mi, R2, Er2, ?_⟩⟩
          have l2 : σ2.length = σ.length := by rw [← Er2.len, Tg.len eb, Ei.len, l]
          have F0 : Fin (gm X) Z φ W1 H1 Mi Wi ψ H'' := ⟨R2, xi.trans x2, nw⟩
          rw [l2]
          dsimp only at hr
          revert hr
          cases s e2 Mi with
          | bad => exact fun hr => hr
          | exc x M' => exact fun hr => RunS.later hr F0
          | ok fl M' =>
            intro hr
            have go : ∀ e', RunS (gm X) Z φ W1 H1 σ.length (forL s t itm.deps (itm.items.drop (i + 1)) e' M') De E → ∀ W' ψ' H3 σ3, Fin (gm X) Z (φ ++ ψ) Wi H'' M' W' ψ' H3 → EnvR (gm X) (Bar W' Z) (φ ++ ψ ++ ψ') H3 e' σ3 → σ3.length = σ.length →
                ∃ Wi ψ Mi env', Rel (gm X) Wi Z (φ ++ ψ) Mi H3 ∧ EnvR (gm X) (Bar Wi Z) (φ ++ ψ) H3 env' σ3 ∧ σ3.length = σ.length ∧ Ext W1 H1 Wi H3 ∧ (∀ p ∈ ψ, H1 p = none) ∧
                  RunS (gm X) Z φ W1 H1 σ.length (forL s t itm.deps (itm.items.drop (i + 1)) env' Mi) De E := fun e' hq W' ψ' H3 σ3 f q l3 => by
              have f2 := F0.trans f
              exact ⟨W', ψ ++ ψ', M', e', f2.rel, by rw [← List.append_assoc]; exact q, l3, f2.ext, f2.new, hq⟩
            cases fl with
            | next e' => exact go e' hr
            | cont e' => exact go e' hr
            | ret v => exact fun W' ψ' H3 v' f q => RunS.later hr F0 W' ψ' H3 v' f q
            | brk e' => exact fun W' ψ' H3 σ3 f q l3 => RunS.later hr F0 W' ψ' H3 σ3 f q l3
      · rw [forL_deps q] at hr; exact hr.elim
    · rintro σ' H' ⟨Wi, ψ, Mi, env', Ri, Ei, l, xi, nw, hr⟩
      rw [List.drop_length] at hr
      unfold forL at hr
      split at hr
      · exact hr Wi ψ H' σ' ⟨Ri, xi, nw⟩ Ei l
      · exact hr.elim) (fun c d H' q => q σ rfl)⟩
theorem gs_while (hp : PassesOwn (model X.prog X.w) X.A X.env X.xe) (hc : GB X E c p) (hb : GSs X E body s) : GS X E (.While c body [] pos) (sWhile p s) :=
  PS.imp (ps_while hp hc hb) fun De σ H ⟨W, Z, φ, env, M, R, Er, h⟩ => by
    refine ⟨fun m σ' H' => ∃ Wi ψ Mi env', Rel (gm X) Wi Z (φ ++ ψ) Mi H' ∧ EnvR (gm X) (Bar Wi Z) (φ ++ ψ) H' env' σ' ∧ σ'.length = σ.length ∧ Ext W H Wi H' ∧ (∀ p ∈ ψ, H p = none) ∧
      RunS (gm X) Z φ W H σ.length (whileF p s m env' Mi) De E, ⟨bigF, W, [], M, env, by simpa using R, by simpa using Er, rfl, Ext.refl _ _, (fun _ h => by cases h), h⟩, ?_⟩
    rintro m σ' H' ⟨Wi, ψ, Mi, env', Ri, Ei, l, xi, nw, hr⟩
    cases m with
    | zero => exact hr.elim
    | succ m =>
      unfold whileF at hr
      have F0 : Fin (gm X) Z φ W H Mi Wi ψ H' := ⟨Ri, xi, nw⟩
      refine ⟨Wi, Z, φ ++ ψ, env', Mi, Ri, Ei, (RunS.bind (RunS.later hr F0)).imp2 (fun b H1 ⟨W1, M1, b', e, R1, x1, r1, h2⟩ => ?_) (fun c d H' q => q σ' l)⟩
      subst r1
      have F1 : Fin (gm X) Z φ W H M1 W1 ψ H1 := ⟨R1, xi.trans x1, nw⟩
      cases b' with
      | false =>
        rw [if_neg Bool.false_ne_true] at h2 ⊢
        exact RunS.next R1 h2 (Ei.ext x1.bar) l
      | true =>
        rw [if_pos rfl] at h2 ⊢
        rw [e, Out.bind_ok, if_pos rfl] at hr
        refine ⟨fun σ3 H3 => ∃ Wi ψ Mi env', Rel (gm X) Wi Z (φ ++ ψ) Mi H3 ∧ EnvR (gm X) (Bar Wi Z) (φ ++ ψ) H3 env' σ3 ∧ σ3.length = σ.length ∧ Ext W H Wi H3 ∧ (∀ p ∈ ψ, H p = none) ∧
          RunS (gm X) Z φ W H σ.length (whileF p s m env' Mi) De E, fun σ3 H3 q => ⟨m, Nat.lt_succ_self m, q⟩, W1, Z, φ ++ ψ, env', M1, R1, Ei.ext x1.bar, ?_⟩
        rw [l]
        revert hr
        cases s env' M1 with
        | bad => exact fun hr => hr
        | exc x M' => exact fun hr => RunS.later hr F1
        | ok fl M' =>
          intro hr
          have go : ∀ e', RunS (gm X) Z φ W H σ.length (whileF p s m e' M') De E → ∀ W' ψ' H3 σ3, Fin (gm X) Z (φ ++ ψ) W1 H1 M' W' ψ' H3 → EnvR (gm X) (Bar W' Z) (φ ++ ψ ++ ψ') H3 e' σ3 → σ3.length = σ.length →
              ∃ Wi ψ Mi env', Rel (gm X) Wi Z (φ ++ ψ) Mi H3 ∧ EnvR (gm X) (Bar Wi Z) (φ ++ ψ) H3 env' σ3 ∧ σ3.length = σ.length ∧ Ext W H Wi H3 ∧ (∀ p ∈ ψ, H p = none) ∧
                RunS (gm X) Z φ W H σ.length (whileF p s m env' Mi) De E := fun e' hq W' ψ' H3 σ3 f q l3 => by
            have f2 := F1.trans f
            exact ⟨W', ψ ++ ψ', M', e', f2.rel, by rw [← List.append_assoc]; exact q, l3, f2.ext, f2.new, hq⟩
          cases fl with
          | next e' => exact go e' hr
          | cont e' => exact go e' hr
          | ret v => exact fun W' ψ' H3 v' f q => RunS.later hr F1 W' ψ' H3 v' f q
          | brk e' => exact fun W' ψ' H3 σ3 f q l3 => RunS.later hr F1 W' ψ' H3 σ3 f q l3
end
end Mp

namespace Mp
open PySem L2

/-! ## stores into lists -/
section
variable {G : Gm} {W W1 Z : Addr → Prop} {φ : List Addr} {H H1 : Hp} {M M1 : Mem}
/-- a cell's list is changed -/
theorem Rel.setCell (R : Rel G W Z φ M H) {i : Nat} {p : Addr} {c : MC} {ys : List D} {us : List V} (e : φ[i]? = some p) (e2 : M[i]? = some (some c)) (rd : RDs G (Bar W Z) H ys us) :
    Rel G W Z φ (M.set i (some (.l ys))) (upd H p (.lst us)) ∧ Ext W H W (upd H p (.lst us)) := by
  obtain ⟨wp, _⟩ := R.cell i p c e e2
  have lv : ∀ a, H a ≠ none → upd H p (.lst us) a ≠ none := fun a h => by
    by_cases z : a = p
    · rw [z, upd_same]; simp
    · rw [upd_ne z]; exact h
  have x : Ext W H W (upd H p (.lst us)) := ⟨fun a o h n => ⟨by rw [upd_ne fun z => n (by rw [z]; exact wp)]; exact h, n⟩, lv⟩
  have hi : i < M.length := (List.getElem?_eq_some_iff.mp e2).1
  refine ⟨⟨by rw [List.length_set]; exact R.len, R.nd, fun a w => lv a (R.wt a w), fun a z => lv a (R.zt a z), fun j q e3 => ⟨lv q (R.sep j q e3).1, (R.sep j q e3).2⟩, fun j q c' e3 e4 => ?_⟩, x⟩
  by_cases hj : j = i
  · subst hj
    rw [List.getElem?_set_self hi] at e4
    cases e4
    rw [e] at e3; cases e3
    exact ⟨wp, us, upd_same, rd.ext x.bar⟩
  · rw [List.getElem?_set_ne (Ne.symm hj)] at e4
    obtain ⟨w, r⟩ := R.cell j q c' e3 e4
    have hq : q ≠ p := fun z => by
      subst z
      obtain ⟨l1, g1⟩ := List.getElem?_eq_some_iff.mp e3
      obtain ⟨l2, g2⟩ := List.getElem?_eq_some_iff.mp e
      exact hj ((List.getElem_inj R.nd).mp (g1.trans g2.symm))
    exact ⟨w, r.ext x.bar (upd_ne hq)⟩
end
/-- a cell that is alive -/
def cellOf? (M : Mem) : AV → Option (Nat × List D)
  | .cell i => match M[i]? with
    | some (some (.l xs)) => some (i, xs)
    | _ => none
  | _ => none
theorem cellOf_ok {M : Mem} {x : AV} {i : Nat} {xs : List D} (h : cellOf? M x = some (i, xs)) : x = .cell i ∧ M[i]? = some (some (.l xs)) := by
  unfold cellOf? at h
  split at h
  · split at h
    · cases h; exact ⟨rfl, by assumption⟩
    · cases h
  · cases h
/-- o[i] = v -/
def sSetI (fo fi fv : SE) : SS := fun env M => (fv env M).bind fun v M1 => (fo env M1).bind fun o M2 => (fi env M2).bind fun k M3 => match keepD v.settle M3, k with
  | some (d, M4), .d (.int k) => match cellOf? M4 o with
    | some (c, xs) => match ixN xs.length k with
      | some j => .ok (.next env) (M4.set c (some (.l (xs.set j d))))
      | none => .bad
    | none => .bad
  | _, _ => .bad
/-- methods that change a list: what comes, what is left -/
def mAppend : List D → List AV → Mem → Option (D × List D × Mem)
  | xs, [a], M => match keepD a M with
    | some (d, M1) => if xs.length < sizeLine then some (.non, xs ++ [d], M1) else none
    | none => none
  | _, _, _ => none
def mExtend : List D → List AV → Mem → Option (D × List D × Mem)
  | xs, [a], M => match lstOf M a, a with
    | some zs, .scr _ => none
    | some zs, _ => if xs.length + zs.length ≤ sizeLine then some (.non, xs ++ zs, M) else none
    | none, _ => none
  | _, _, _ => none
def mPop : List D → List AV → Mem → Option (D × List D × Mem)
  | xs, [], M => match xs[xs.length - 1]? with
    | some d => some (d, xs.dropLast, M)
    | none => none
  | xs, [.d (.int i)], M => if -(2 ^ 63) ≤ i ∧ i < 2 ^ 63 then match seqIndex? i xs.length with
      | some k => match xs[k]? with
        | some d => some (d, xs.eraseIdx k, M)
        | none => none
      | none => none
    else none
  | _, _, _ => none
def sMeth (m : List D → List AV → Mem → Option (D × List D × Mem)) (fo : SE) (l : SL) : SE := fun env M => (fo env M).bind fun o M1 => match cellOf? M1 o with
  | none => .bad
  | some _ => (l env M1).bind fun avs M2 => match cellOf? M2 o with
    | none => .bad
    | some (_, xs) => match m xs avs M2 with
      | none => .bad
      | some (d, ys, M3) => match cellOf? M3 o with
        | none => .bad
        | some (c, _) => .ok (.d d) (M3.set c (some (.l ys)))
section
variable {X : Cx} {E : WX} {a o i v e : Expr} {es : List Expr} {f fo fi fv fe g : SE} {l : SL} {pos tpos : Pos}
theorem get_list {p : Addr} : PGet X (rIxL X.K) := by
  intro pins s σ H o i ov iv Q I ro ri h
  obtain ⟨p, xs, k, z, rfl, rfl, hq, he, q⟩ := h
  cases ro
  obtain ⟨t, rfl⟩ := ri
  obtain ⟨its, r, pl, hz⟩ := I.list hq
  obtain ⟨j, h1, h2, h3, h4, h5⟩ := atI_get he
  obtain ⟨w, ew, rw'⟩ := r.get h2
  have hl := r.length
  have hn := line63
  have fin : EP X pins σ Q w s := ⟨z, H, I, rw', q⟩
  by_cases h0 : 0 ≤ k
  · have hj : k.toNat = j := by
      rw [seqIndex_of h0 h5] at h1
      exact Option.some.inj h1
    exact wpAny_getItem_list pl.isList h0 (by omega) (by rw [hj]; simpa using ew) fin
  · have hj : (k + (its.toArray.size : Int)).toNat = j := by
      rw [seqIndex_neg (by omega) h4] at h1
      rw [List.size_toArray, ← hl]
      exact Option.some.inj h1
    exact wpAny_getItem_list_neg pl.isList (by omega) (by rw [List.size_toArray] <;> omega) (by omega) (by rw [hj]; simpa using ew) fin
theorem gs_setI (hv : GE X E v fv) (ho : GE X E o fo) (hi : GE X E i fi) (hs : swapsWithSole [.Subscript o i tpos] v pos.line X.env = pure false) (hw : swappedStores [.Subscript o i tpos] v X.env = pure none)
    (h1 : (assignEach [.Subscript o i tpos] X.env).map (·.2) = [assign (.Subscript o i tpos) X.env])
    (hg : ∀ {to ti : TE}, PE X o to → PE X i ti → PG X (.Subscript o i tpos) (gSub to ti rSetL)) : GS X E (.Assign [.Subscript o i tpos] v pos) (sSetI fo fi fv) :=
  PS.imp (ps_asg hv (hg ho hi) hs hw h1) fun De σ H ⟨W, Z, φ, env, M, R, Er, h⟩ => ⟨W, Z, φ, env, M, R, Er,
    (RunS.bind h).imp2 (fun x H1 ⟨W1, M1, x', _, R1, x1, r1, h2⟩ => ⟨W1, Z, φ, env, M1, R1, Er.ext x1.bar,
      (RunS.bind h2).imp2 (fun y H2 ⟨W2, M2, y', _, R2, x2, r2, h3⟩ => ⟨W2, Z, φ, env, M2, R2, (Er.ext x1.bar).ext x2.bar,
        (RunS.bind h3).imp2 (fun z H3 ⟨W3, M3, z', _, R3, x3, r3, h4⟩ => by
          have rx := ((r1.sr.settle).ext x2.bar).ext x3.bar
          cases ek : keepD x'.settle M3 with
          | none => rw [ek] at h4; exact h4.elim
          | some dM =>
            obtain ⟨d, M4⟩ := dM
            rw [ek] at h4
            cases z' with
            | d zz =>
              cases zz with
              | int k =>
                cases r3
                dsimp only at h4
                cases ec : cellOf? M4 y' with
                | none => rw [ec] at h4; exact h4.elim
                | some cx =>
                  obtain ⟨c, xs⟩ := cx
                  rw [ec] at h4
                  dsimp only at h4
                  cases ej : ixN xs.length k with
                  | none => rw [ej] at h4; exact h4.elim
                  | some j =>
                    rw [ej] at h4
                    obtain ⟨rfl, em⟩ := cellOf_ok ec
                    obtain ⟨W4, R4, l4, rd⟩ := keep_ok R3 rx ek
                    obtain ⟨p, ep, rfl⟩ := r2.sr
                    obtain ⟨_, vs, hp, rvs⟩ := R4.cell c p _ ep em
                    obtain ⟨R5, x5⟩ := R4.setCell ep em (rvs.set rd j)
                    refine ⟨p, vs, k, j, rfl, rfl, hp, by rw [← rvs.length]; exact ej, ?_⟩
                    exact h4 W4 [] _ σ ⟨by simpa using R5, (Ext.less l4).trans x5, fun _ z => by cases z⟩ (by simpa using ((((Er.ext x1.bar).ext x2.bar).ext x3.bar).ext (Ext.bar (Ext.less l4))).ext x5.bar) rfl
              | _ => exact h4.elim
            | _ => exact h4.elim) (fun c d H' q => q σ rfl)⟩) (fun c d H' q => q σ rfl)⟩) (fun c d H' q => q σ rfl)⟩
/-- a method with arguments -/
theorem meth_run {m : List D → List AV → Mem → Option (D × List D × Mem)} {r : V → List V → Hp → VK → Prop} {G : Gm} {W Z : Addr → Prop} {φ : List Addr} {H : Hp} {M : Mem} {Q : VK} {EE : XK} {o : AV} {avs : List AV} {v : V} {vs : List V}
    (R : Rel G W Z φ M H) (ro : SR G (Bar W Z) φ H o v) (ra : SRs G (Bar W Z) φ H avs vs)
    (hm : ∀ xs d ys M', m xs avs M = some (d, ys, M') → ∀ p us, H p = some (.lst us) → RDs G (Bar W Z) H xs us → ∃ W' y ws, Rel G W' Z φ M' H ∧ (∀ a, W' a → W a) ∧ RD G (Bar W' Z) H d y ∧ RDs G (Bar W' Z) H ys ws ∧ ∀ Q : VK, Q y (upd H p (.lst ws)) → r (.ref p) vs H Q)
    (h : Run G Z φ W H (match cellOf? M o with | none => .bad | some (_, xs) => match m xs avs M with | none => .bad | some (d, ys, M3) => match cellOf? M3 o with | none => .bad | some (c, _) => .ok (.d d) (M3.set c (some (.l ys)))) Q EE) : r v vs H Q := by
  cases ec : cellOf? M o with
  | none => rw [ec] at h; exact h.elim
  | some cx =>
    obtain ⟨c, xs⟩ := cx
    rw [ec] at h
    dsimp only at h
    cases em : m xs avs M with
    | none => rw [em] at h; exact h.elim
    | some t =>
      obtain ⟨d, ys, M3⟩ := t
      rw [em] at h
      dsimp only at h
      cases ec2 : cellOf? M3 o with
      | none => rw [ec2] at h; exact h.elim
      | some cy =>
        obtain ⟨c2, xs2⟩ := cy
        rw [ec2] at h
        obtain ⟨rfl, e1⟩ := cellOf_ok ec
        obtain ⟨e3, e2⟩ := cellOf_ok ec2
        cases e3
        obtain ⟨p, ep, rfl⟩ := ro
        obtain ⟨_, us, hp, rus⟩ := R.cell c p _ ep e1
        obtain ⟨W', y, ws, R', l', rd, rds, k⟩ := hm xs d ys M3 em p us hp rus
        obtain ⟨R5, x5⟩ := R'.setCell ep e2 rds
        exact k Q (h W' _ y R5 ((Ext.less l').trans x5) (rd.ext x5.bar))
theorem tyV_list {K : PySem.W.Frag} {p : Addr} {us : List V} {H : Hp} (h : H p = some (.lst us)) : tyV K "list" (.ref p) H := .inl ⟨rfl, _, .of h⟩
theorem ge_meth {m : List D → List AV → Mem → Option (D × List D × Mem)} {r : V → List V → Hp → VK → Prop} (ho : GE X E o fo) (hl : GL X E es l)
    (hp : ∀ {to : TE} {t : TA}, PE X o to → PA X es t → PE X e (tBM X.K "list" r to t))
    (hm : ∀ (W Z : Addr → Prop) (φ : List Addr) (M : Mem) (H : Hp) avs vs, Rel (gm X) W Z φ M H → SRs (gm X) (Bar W Z) φ H avs vs → ∀ xs d ys M', m xs avs M = some (d, ys, M') → ∀ p us, H p = some (.lst us) → RDs (gm X) (Bar W Z) H xs us →
      ∃ W' y ws, Rel (gm X) W' Z φ M' H ∧ (∀ a, W' a → W a) ∧ RD (gm X) (Bar W' Z) H d y ∧ RDs (gm X) (Bar W' Z) H ys ws ∧ ∀ Q : VK, Q y (upd H p (.lst ws)) → r (.ref p) vs H Q) : GE X E e (sMeth m fo l) :=
  PE.imp (hp ho hl) fun σ H Q ⟨W, Z, φ, env, M, R, Er, h⟩ => ⟨W, Z, φ, env, M, R, Er, (Run.bind h).imp fun v H1 ⟨W1, M1, x, _, R1, x1, r1, h2⟩ => by
    cases ec : cellOf? M1 x with
    | none => rw [ec] at h2; exact h2.elim
    | some cx =>
      obtain ⟨c, xs⟩ := cx
      rw [ec] at h2
      dsimp only at h2
      obtain ⟨rfl, e1⟩ := cellOf_ok ec
      obtain ⟨p, ep, rfl⟩ := id r1.sr
      obtain ⟨_, us, hp, rus⟩ := R1.cell c p _ ep e1
      refine ⟨tyV_list hp, W1, Z, φ, env, M1, R1, Er.ext x1.bar, (Run.bind h2).imp fun vs H2 ⟨W2, M2, avs, _, R2, x2, r2, h3⟩ => ?_⟩
      exact meth_run R2 (r1.sr.ext x2.bar) r2 (hm W2 Z φ M2 H2 avs vs R2 r2) h3⟩
theorem append_ok {G : Gm} (W Z : Addr → Prop) (φ : List Addr) (M : Mem) (H : Hp) (avs : List AV) (vs : List V) (R : Rel G W Z φ M H) (ra : SRs G (Bar W Z) φ H avs vs) (xs : List D) (d : D) (ys : List D) (M' : Mem) (h : mAppend xs avs M = some (d, ys, M')) (p : Addr) (us : List V)
    (hp : H p = some (.lst us)) (rus : RDs G (Bar W Z) H xs us) : ∃ W' y ws, Rel G W' Z φ M' H ∧ (∀ a, W' a → W a) ∧ RD G (Bar W' Z) H d y ∧ RDs G (Bar W' Z) H ys ws ∧ ∀ Q : VK, Q y (upd H p (.lst ws)) → rAppend (.ref p) vs H Q := by
  unfold mAppend at h
  split at h
  · obtain ⟨v, rfl, r1⟩ := ra.one
    split at h
    · rename_i d1 M1 ek
      split at h
      · rename_i hlt
        cases h
        obtain ⟨W', R', l', rd⟩ := keep_ok R r1 ek
        refine ⟨W', .non, us ++ [v], R', l', .non, (rus.ext (Ext.bar (Ext.less l'))).append (.cons rd .nil), fun Q q => ⟨p, us, v, rfl, rfl, hp, by rw [← rus.length]; exact hlt, q⟩⟩
      · cases h
    · cases h
  · cases h
theorem extend_ok {G : Gm} (W Z : Addr → Prop) (φ : List Addr) (M : Mem) (H : Hp) (avs : List AV) (vs : List V) (R : Rel G W Z φ M H) (ra : SRs G (Bar W Z) φ H avs vs) (xs : List D) (d : D) (ys : List D) (M' : Mem) (h : mExtend xs avs M = some (d, ys, M')) (p : Addr) (us : List V)
    (hp : H p = some (.lst us)) (rus : RDs G (Bar W Z) H xs us) : ∃ W' y ws, Rel G W' Z φ M' H ∧ (∀ a, W' a → W a) ∧ RD G (Bar W' Z) H d y ∧ RDs G (Bar W' Z) H ys ws ∧ ∀ Q : VK, Q y (upd H p (.lst ws)) → rExtend (.ref p) vs H Q := by
  unfold mExtend at h
  split at h
  · obtain ⟨v, rfl, r1⟩ := ra.one
    split at h
    · cases h
    · rename_i zs hn el
      split at h
      · rename_i hlt
        cases h
        obtain ⟨q, ws, rfl, h1, h2, h3⟩ := R.lst r1 el
        refine ⟨W, .non, us ++ ws, R, fun _ z => z, .non, rus.append h2, fun Q k => ⟨p, q, us, ws, rfl, rfl, hp, h3 fun ns e => ?_, by rw [← rus.length, ← h2.length]; exact hlt, k⟩⟩
        exact hn ns e
      · cases h
    · cases h
  · cases h
theorem pop_ok {G : Gm} (W Z : Addr → Prop) (φ : List Addr) (M : Mem) (H : Hp) (avs : List AV) (vs : List V) (R : Rel G W Z φ M H) (ra : SRs G (Bar W Z) φ H avs vs) (xs : List D) (d : D) (ys : List D) (M' : Mem) (h : mPop xs avs M = some (d, ys, M')) (p : Addr) (us : List V)
    (hp : H p = some (.lst us)) (rus : RDs G (Bar W Z) H xs us) : ∃ W' y ws, Rel G W' Z φ M' H ∧ (∀ a, W' a → W a) ∧ RD G (Bar W' Z) H d y ∧ RDs G (Bar W' Z) H ys ws ∧ ∀ Q : VK, Q y (upd H p (.lst ws)) → (rPop (.ref p) vs H Q ∨ rPopAt (.ref p) vs H Q) := by
  unfold mPop at h
  split at h
  · match vs, ra with
    | [], _ =>
      split at h
      · rename_i d1 e1
        cases h
        obtain ⟨y, e2, r⟩ := rus.get e1
        exact ⟨W, y, us.dropLast, R, fun _ z => z, r, rus.dropLast, fun Q q => .inl ⟨p, us, y, rfl, rfl, hp, by rw [← rus.length]; exact e2, q⟩⟩
      · cases h
  · obtain ⟨v, rfl, r1⟩ := ra.one
    cases r1
    split at h
    · rename_i hb
      split at h
      · rename_i k ek
        split at h
        · rename_i d1 e1
          cases h
          obtain ⟨y, e2, r⟩ := rus.get e1
          exact ⟨W, y, us.eraseIdx k, R, fun _ z => z, r, rus.eraseIdx k, fun Q q => .inr ⟨p, us, _, k, y, rfl, rfl, hp, hb.1, hb.2, by rw [← rus.length]; exact ek, e2, q⟩⟩
        · cases h
      · cases h
    · cases h
  · cases h
end
end Mp

namespace Mp
open PySem L2

/-! ## a, b = x, y with plain names; x op= e -/
def sPar2 (i j : Nat) (m n : Bool) (f g : SE) : SS := fun env M => (f env M).bind fun x M1 =>
  (g env (asgAV i m x env M1).2).bind fun y M2 => .ok (.next (asgAV j n y (asgAV i m x env M1).1 M2).1) (asgAV j n y (asgAV i m x env M1).1 M2).2
def sPar3 (i j k : Nat) (m n o : Bool) (f g h : SE) : SS := fun env M => (f env M).bind fun x M1 =>
  (g env (asgAV i m x env M1).2).bind fun y M2 => (h env (asgAV j n y (asgAV i m x env M1).1 M2).2).bind fun z M3 =>
    .ok (.next (asgAV k o z (asgAV j n y (asgAV i m x env M1).1 M2).1 M3).1) (asgAV k o z (asgAV j n y (asgAV i m x env M1).1 M2).1 M3).2
/-- what storing leaves: the frame's names as told, the state behind it -/
theorem asg_fin {G : Gm} {i : Nat} {m : Bool} {x : AV} {v : V} {W W1 Z : Addr → Prop} {φ : List Addr} {H H1 : Hp} {M1 : Mem} {env env0 : Env} {σ σ0 : St} (R : Rel G W1 Z φ M1 H1) (Er : EnvR G (Bar W1 Z) φ H1 env σ) (Er0 : EnvR G (Bar W Z) φ H env0 σ0)
    (hb : ∀ p W2, H p = none → (∀ a o, H a = some o → ¬ W a → ¬ W2 a) → (∀ a, W2 a → W1 a ∨ a = p) → Ext W H W2 H1 → EnvR G (Bar W2 Z) φ H1 env σ)
    (r : VR G W1 Z φ H H1 M1 x v) (y : Ext W H W1 H1) :
    ∃ W2 ψ, Rel G W2 Z (φ ++ ψ) (asgAV i m x env M1).2 H1 ∧ EnvR G (Bar W2 Z) (φ ++ ψ) H1 (asgAV i m x env M1).1 (σ.set i (some v)) ∧ Ext W H W2 H1 ∧ (∀ p ∈ ψ, H p = none) := by
  have plain : asgAV i m x env M1 = (env.set i (some x.settle), M1) → ∃ W2 ψ, Rel G W2 Z (φ ++ ψ) (asgAV i m x env M1).2 H1 ∧ EnvR G (Bar W2 Z) (φ ++ ψ) H1 (asgAV i m x env M1).1 (σ.set i (some v)) ∧ Ext W H W2 H1 ∧ (∀ p ∈ ψ, H p = none) := fun e => by
    rw [e]
    exact ⟨W1, [], by simpa using R, by simpa using Er.set r.sr.settle i, y, fun _ z => by cases z⟩
  cases x with
  | fr xs =>
    cases m with
    | false => exact plain rfl
    | true =>
      obtain ⟨p, rfl, h0, R2, hk⟩ := thaw R r y.live
      have x2 : Ext W H (add1 W1 p) H1 := ⟨fun a o e n => ⟨(y.keep a o e n).1, fun z => z.elim (y.keep a o e n).2 fun z => by subst z; rw [h0] at e; cases e⟩, y.live⟩
      refine ⟨add1 W1 p, [p], R2, ?_, x2, fun q hq => by simp at hq; subst hq; exact h0⟩
      have Er2 := (hb p (add1 W1 p) h0 (fun a o e n => (x2.keep a o e n).2) (fun a z => z) x2).app [p]
      refine Er2.set (av := .cell M1.length) ⟨p, ?_, rfl⟩ i
      rw [← R.len]
      simp
  | d y => exact plain (by cases m <;> rfl)
  | cell y => exact plain (by cases m <;> rfl)
  | scr y => exact plain (by cases m <;> rfl)
/-- a new list that comes while another one is at hand: the state with it as a cell -/
theorem asg_mem {i : Nat} {m : Bool} {x : AV} {env env' : Env} {M : Mem} : (asgAV i m x env M).2 = (asgAV i m x env' M).2 := by
  cases x <;> cases m <;> rfl
section
variable {X : Cx} {E : WX} {a b c : Expr} {f g h : SE} {pos px py pz pt pt2 : Pos} {kt k2 : Nat}
theorem gs_par2 {i j : Nat} {x y : Str} {m n : Bool} (hc : X.calm = true) (hN : X.N.Nodup) (hi : X.N[i]? = some x) (hj : X.N[j]? = some y) (hij : i ≠ j)
    (hx : X.env.scope.names.lookup x = some .local) (hy : X.env.scope.names.lookup y = some .local) (ha : GE X E a f) (hb : GE X E b g)
    (hw : swappedStores [.Tuple [.Name x px, .Name y py] kt pt] (.Tuple [a, b] k2 pt2) X.env = pure (some [x, y]))
    (hs : swapsWithSole [.Tuple [.Name x px, .Name y py] kt pt] (.Tuple [a, b] k2 pt2) pos.line X.env = pure false)
    (s1 : starEach [a, b] X.env = (false, eval a X.env) :: starEach [b] X.env) (s2 : starEach [b] X.env = (false, eval b X.env) :: starEach [] X.env) :
    GS X E (.Assign [.Tuple [.Name x px, .Name y py] kt pt] (.Tuple [a, b] k2 pt2) pos) (sPar2 i j m n f g) :=
  PS.imp (ps_par hc hN hi hj hij hx hy (pa_cons ha (pa_cons hb pa_nil s2) s1) hw hs) fun De σ H ⟨W, Z, φ, env, M, R, Er, h⟩ => by
    refine ⟨W, Z, φ, env, M, R, Er, (RunS.bind0 h).imp2 (fun v H1 ⟨W1, M1, x', _, R1, x1, r1, h2⟩ => ?_) (fun c d H' q => q σ rfl)⟩
    obtain ⟨W2, ψ, R2, Er2, x2, nw⟩ := asg_fin (i := i) (m := m) R1 (Er.ext x1.bar) Er (fun p W2 h0 k k2 xx => Er.ext xx.bar) r1 x1
    have h2' : RunS (gm X) Z (φ ++ ψ) W2 H1 σ.length ((g env (asgAV i m x' env M1).2).bind fun y' M2 => .ok (.next (asgAV j n y' (asgAV i m x' env M1).1 M2).1) (asgAV j n y' (asgAV i m x' env M1).1 M2).2) De E := RunS.later h2 ⟨R2, x2, nw⟩
    have Er1 : EnvR (gm X) (Bar W2 Z) (φ ++ ψ) H1 env σ := (Er.ext x2.bar).app ψ
    refine ⟨W2, Z, φ ++ ψ, env, _, R2, Er1, (RunS.bind0 h2').imp2 (fun u H2 ⟨W3, M3, y', _, R3, x3, r3, h4⟩ => ⟨v, u, rfl, ?_⟩) (fun c d H' q => q σ rfl)⟩
    obtain ⟨W4, ψ2, R4, Er4, x4, nw4⟩ := asg_fin (i := j) (m := n) R3 (Er2.ext x3.bar) Er2 (fun p W2 h0 k k2 xx => Er2.ext xx.bar) r3 x3
    exact h4 W4 ψ2 H2 _ ⟨R4, x4, nw4⟩ Er4 (by simp)
theorem gs_par3 {i j l : Nat} {x y z : Str} {m n o : Bool} (hc : X.calm = true) (hN : X.N.Nodup) (hi : X.N[i]? = some x) (hj : X.N[j]? = some y) (hl : X.N[l]? = some z) (hij : i ≠ j) (hil : i ≠ l) (hjl : j ≠ l)
    (hx : X.env.scope.names.lookup x = some .local) (hy : X.env.scope.names.lookup y = some .local) (hz : X.env.scope.names.lookup z = some .local) (ha : GE X E a f) (hb : GE X E b g) (hcc : GE X E c h)
    (hw : swappedStores [.Tuple [.Name x px, .Name y py, .Name z pz] kt pt] (.Tuple [a, b, c] k2 pt2) X.env = pure (some [x, y, z]))
    (hs : swapsWithSole [.Tuple [.Name x px, .Name y py, .Name z pz] kt pt] (.Tuple [a, b, c] k2 pt2) pos.line X.env = pure false)
    (s1 : starEach [a, b, c] X.env = (false, eval a X.env) :: starEach [b, c] X.env) (s2 : starEach [b, c] X.env = (false, eval b X.env) :: starEach [c] X.env) (s3 : starEach [c] X.env = (false, eval c X.env) :: starEach [] X.env) :
    GS X E (.Assign [.Tuple [.Name x px, .Name y py, .Name z pz] kt pt] (.Tuple [a, b, c] k2 pt2) pos) (sPar3 i j l m n o f g h) :=
  PS.imp (ps_par3 hc hN hi hj hl hij hil hjl hx hy hz (pa_cons ha (pa_cons hb (pa_cons hcc pa_nil s3) s2) s1) hw hs) fun De σ H ⟨W, Z, φ, env, M, R, Er, hh⟩ => by
    refine ⟨W, Z, φ, env, M, R, Er, (RunS.bind0 hh).imp2 (fun v H1 ⟨W1, M1, x', _, R1, x1, r1, h2⟩ => ?_) (fun c d H' q => q σ rfl)⟩
    obtain ⟨W2, ψ, R2, Er2, x2, nw⟩ := asg_fin (i := i) (m := m) R1 (Er.ext x1.bar) Er (fun p W2 h0 k k2 xx => Er.ext xx.bar) r1 x1
    have h2' := RunS.later h2 ⟨R2, x2, nw⟩
    have Er1 : EnvR (gm X) (Bar W2 Z) (φ ++ ψ) H1 env σ := (Er.ext x2.bar).app ψ
    refine ⟨W2, Z, φ ++ ψ, env, _, R2, Er1, (RunS.bind0 h2').imp2 (fun u H2 ⟨W3, M3, y', _, R3, x3, r3, h4⟩ => ?_) (fun c d H' q => q σ rfl)⟩
    obtain ⟨W4, ψ2, R4, Er4, x4, nw4⟩ := asg_fin (i := j) (m := n) R3 (Er2.ext x3.bar) Er2 (fun p W2 h0 k k2 xx => Er2.ext xx.bar) r3 x3
    have h4' := RunS.later h4 ⟨R4, x4, nw4⟩
    have Er3 : EnvR (gm X) (Bar W4 Z) (φ ++ ψ ++ ψ2) H2 env σ := (Er1.ext x4.bar).app ψ2
    refine ⟨W4, Z, φ ++ ψ ++ ψ2, env, _, R4, Er3, (RunS.bind0 h4').imp2 (fun w H3 ⟨W5, M5, z', _, R5, x5, r5, h6⟩ => ⟨v, u, w, rfl, ?_⟩) (fun c d H' q => q σ rfl)⟩
    obtain ⟨W6, ψ3, R6, Er6, x6, nw6⟩ := asg_fin (i := l) (m := o) R5 (Er4.ext x5.bar) Er4 (fun p W2 h0 k k2 xx => Er4.ext xx.bar) r5 x5
    exact h6 W6 ψ3 H3 _ ⟨R6, x6, nw6⟩ Er6 (by simp)
end

/-! ### x op= e -/
def inop : Operator → AV → AV → Mem → Out AV
  | .Add, .d (.int i), .d (.int j), M => .ok (.d (.int (i + j))) M
  | .Add, .d (.str x), .d (.str y), M => guard (decide (x.length + y.length ≤ sizeLine)) (.ok (.d (.str (x ++ y))) M)
  | .Sub, .d (.int i), .d (.int j), M => .ok (.d (.int (i - j))) M
  | .Mult, .d (.int i), .d (.int j), M => guard (decide (-(2 ^ 64) < i ∧ i < 2 ^ 64 ∨ -(2 ^ 64) < j ∧ j < 2 ^ 64)) (.ok (.d (.int (i * j))) M)
  | .FloorDiv, .d (.int i), .d (.int j), M => guard (decide (0 < j ∧ j < 1073741824)) (.ok (.d (.int (i / j))) M)
  | _, _, _, _ => .bad
def rIn2 : Operator → R2
  | .Add => fun x y H Q => (∃ i j, x = .int i ∧ y = .int j ∧ Q (.int (i + j)) H) ∨ (∃ i j, x = .str i ∧ y = .str j ∧ i.length + j.length ≤ sizeLine ∧ Q (.str (i ++ j)) H)
  | .Sub => rI0 fun i j => .int (i - j)
  | .Mult => rI CMul fun i j => .int (i * j)
  | .FloorDiv => rI CDiv fun i j => .int (i / j)
  | _ => fun _ _ _ _ => False
theorem rIn2_ok {X : Cx} : ∀ op : Operator, PIp X op (rIn2 op)
  | .Add => fun pins s σ H x y v u Q I rx ry q => (OpR.or (iop_add (X := X)) iop_add_str) pins s σ H x y v u Q I rx ry q
  | .Sub => fun pins s σ H x y v u Q I rx ry q => iop_sub pins s σ H x y v u Q I rx ry q
  | .Mult => fun pins s σ H x y v u Q I rx ry q => iop_mul pins s σ H x y v u Q I rx ry q
  | .FloorDiv => fun pins s σ H x y v u Q I rx ry q => iop_fdiv pins s σ H x y v u Q I rx ry q
  | .MatMult => fun _ _ _ _ _ _ _ _ _ _ _ _ h => h.elim
  | .Div => fun _ _ _ _ _ _ _ _ _ _ _ _ h => h.elim
  | .LShift => fun _ _ _ _ _ _ _ _ _ _ _ _ h => h.elim
  | .RShift => fun _ _ _ _ _ _ _ _ _ _ _ _ h => h.elim
  | .BitOr => fun _ _ _ _ _ _ _ _ _ _ _ _ h => h.elim
  | .BitXor => fun _ _ _ _ _ _ _ _ _ _ _ _ h => h.elim
  | .BitAnd => fun _ _ _ _ _ _ _ _ _ _ _ _ h => h.elim
  | .Mod => fun _ _ _ _ _ _ _ _ _ _ _ _ h => h.elim
  | .Pow => fun _ _ _ _ _ _ _ _ _ _ _ _ h => h.elim
theorem inop_run {G : Gm} {W Z : Addr → Prop} {φ : List Addr} {H : Hp} {M : Mem} {Q : VK} {E : XK} {v u : V} {op : Operator} {a b : AV} (R : Rel G W Z φ M H) (o1 : SR G (Bar W Z) φ H a v) (o2 : SR G (Bar W Z) φ H b u)
    (h : Run G Z φ W H (inop op a b M) Q E) : rIn2 op v u H Q := by
  unfold inop at h
  split at h
  · cases o1; cases o2; exact .inl ⟨_, _, rfl, rfl, Run.ok R h (.int _) (fun _ z => by cases z)⟩
  · obtain ⟨g, h⟩ := guard_run (P := fun r => Run G Z φ W H r Q E) h (fun z => z)
    cases o1; cases o2; exact .inr ⟨_, _, rfl, rfl, of_decide_eq_true g, Run.ok R h (.str _) (fun _ z => by cases z)⟩
  · cases o1; cases o2; exact ⟨_, _, rfl, rfl, Run.ok R h (.int _) (fun _ z => by cases z)⟩
  · obtain ⟨g, h⟩ := guard_run (P := fun r => Run G Z φ W H r Q E) h (fun z => z)
    have g' := of_decide_eq_true g
    cases o1; cases o2; exact ⟨_, _, rfl, rfl, g', Run.ok R h (.int _) (fun _ z => by cases z)⟩
  · obtain ⟨g, h⟩ := guard_run (P := fun r => Run G Z φ W H r Q E) h (fun z => z)
    have g' := of_decide_eq_true g
    cases o1; cases o2; exact ⟨_, _, rfl, rfl, g', Run.ok R h (.int _) (fun _ z => by cases z)⟩
  · exact h.elim
theorem inop_res {op : Operator} {a b : AV} {M M' : Mem} {av : AV} (h : inop op a b M = .ok av M') : M' = M ∧ ∀ xs, av ≠ .fr xs := by
  unfold inop guard at h
  split at h <;> (try split at h) <;> first | (cases h; exact ⟨rfl, fun _ z => by cases z⟩) | cases h
def sAug (i : Nat) (op : Operator) (f : SE) : SS := fun env M => match env[i]? with
  | some (some x) => (f env M).bind fun y M1 => (inop op x y M1).bind fun z M2 => .ok (.next (env.set i (some z))) M2
  | _ => .bad
def sAugI (op : Operator) (fo fi fe : SE) : SS := fun env M => (fo env M).bind fun o M1 => (fi env M1).bind fun k M2 => match k, lstOf M2 o with
  | .d (.int k), some xs => match atI xs k with
    | some x => (fe env M2).bind fun y M3 => match inop op (.d x) y M3 with
      | .ok (.d z) M4 => match cellOf? M4 o with
        | some (c, xs) => match ixN xs.length k with
          | some j => .ok (.next env) (M4.set c (some (.l (xs.set j z))))
          | none => .bad
        | none => .bad
      | _ => .bad
    | none => .bad
  | _, _ => .bad
section
variable {X : Cx} {E : WX} {o i e : Expr} {f fo fi fe : SE} {pos pos' tpos : Pos}
theorem gs_aug {i : Nat} {x : Str} {op : Operator} (hN : X.N.Nodup) (hi : X.N[i]? = some x) (hx : Loc X.env.scope x) (he : GE X E e f) (hf : X.fn x = true ∨ X.env.scope.names.lookup x = some .local) : GS X E (.AugAssign (.Name x pos') op e pos) (sAug i op f) :=
  PS.imp (ps_aug hN hi hx he (rIn2_ok op) hf) fun De σ H ⟨W, Z, φ, env, M, R, Er, h⟩ => by
    unfold sAug at h
    split at h
    · rename_i av ea
      obtain ⟨v, e1, r⟩ := Er.at_ i av ea
      refine ⟨v, e1, W, Z, φ, env, M, R, Er, (RunS.bind h).imp2 (fun u H1 ⟨W1, M1, y, _, R1, x1, r1, h2⟩ => ?_) (fun c d H' q => q σ rfl)⟩
      refine inop_run (op := op) (a := av) (b := y) (E := fun _ _ _ => False) R1 (r.ext x1.bar) r1.sr ?_
      cases eo : inop op av y M1 with
      | bad => rw [eo] at h2; exact h2.elim
      | exc _ _ => unfold inop guard at eo; split at eo <;> (try split at eo) <;> cases eo
      | ok z M2 =>
        rw [eo] at h2
        obtain ⟨rfl, nf⟩ := inop_res eo
        intro W' H' w R' x' r'
        exact h2 W' [] H' _ (Fin.of R' x') (by simpa using ((Er.ext x1.bar).ext x'.bar).set r'.sr i) (by simp)
    · exact h.elim
theorem gs_augI {op : Operator} (ho : GE X E o fo) (hi : GE X E i fi) (he : GE X E e fe) (ha : ∀ ov iv new, augStore i ov iv new = (do holding [new, ov, iv] (setItem ov iv new); release [new, ov, iv] []; pure .next)) :
    GS X E (.AugAssign (.Subscript o i tpos) op e pos) (sAugI op fo fi fe) :=
  PS.imp (ps_augS ho hi (get_list (p := 0)) he (rIn2_ok op) set_list ha) fun De σ H ⟨W, Z, φ, env, M, R, Er, h⟩ => ⟨W, Z, φ, env, M, R, Er,
    (RunS.bind h).imp2 (fun v H1 ⟨W1, M1, o', _, R1, x1, r1, h2⟩ => ⟨W1, Z, φ, env, M1, R1, Er.ext x1.bar,
      (RunS.bind h2).imp2 (fun w H2 ⟨W2, M2, k', _, R2, x2, r2, h3⟩ => by
        cases k' with
        | d kk =>
          cases kk with
          | int k =>
            cases r2
            cases el : lstOf M2 o' with
            | none => rw [el] at h3; exact h3.elim
            | some xs =>
              rw [el] at h3
              dsimp only at h3
              cases ea : atI xs k with
              | none => rw [ea] at h3; exact h3.elim
              | some x =>
                rw [ea] at h3
                dsimp only at h3
                obtain ⟨p, vs, rfl, q1, q2, _⟩ := R2.lst (r1.sr.ext x2.bar) el
                obtain ⟨y, e1, ry⟩ := q2.atI ea
                refine ⟨p, vs, k, y, rfl, rfl, q1, e1, W2, Z, φ, env, M2, R2, (Er.ext x1.bar).ext x2.bar, (RunS.bind h3).imp2 (fun u H3 ⟨W3, M3, y', _, R3, x3, r3, h4⟩ => ?_) (fun c d H' q => q σ rfl)⟩
                refine inop_run (op := op) (a := .d x) (b := y') (E := fun _ _ _ => False) R3 (ry.ext x3.bar) r3.sr ?_
                cases eo : inop op (.d x) y' M3 with
                | bad => rw [eo] at h4; exact h4.elim
                | exc _ _ => unfold inop guard at eo; split at eo <;> (try split at eo) <;> cases eo
                | ok z M4 =>
                  obtain ⟨rfl, nf⟩ := inop_res eo
                  rw [eo] at h4
                  intro W' H' zv R' x' r'
                  cases z with
                  | d zd =>
                    dsimp only at h4
                    cases ec : cellOf? M4 o' with
                    | none => rw [ec] at h4; exact h4.elim
                    | some cx =>
                      obtain ⟨c, ys⟩ := cx
                      rw [ec] at h4
                      dsimp only at h4
                      cases ej : ixN ys.length k with
                      | none => rw [ej] at h4; exact h4.elim
                      | some j =>
                        rw [ej] at h4
                        obtain ⟨rfl, em⟩ := cellOf_ok ec
                        obtain ⟨p', ep, e'⟩ := r1.sr
                        cases e'
                        obtain ⟨_, us, hp, rus⟩ := R'.cell c p _ ep em
                        obtain ⟨R5, x5⟩ := R'.setCell ep em (rus.set r' j)
                        refine ⟨p, us, k, j, rfl, rfl, hp, by rw [← rus.length]; exact ej, ?_⟩
                        exact h4 W' [] _ σ ⟨by simpa using R5, x'.trans x5, fun _ z => by cases z⟩ (by simpa using ((((Er.ext x1.bar).ext x2.bar).ext x3.bar).ext x'.bar).ext x5.bar) rfl
                  | _ => exact h4.elim
          | _ => exact h3.elim
        | _ => exact h3.elim) (fun c d H' q => q σ rfl)⟩) (fun c d H' q => q σ rfl)⟩
end
end Mp

namespace PySem
namespace RefX
open PySem.W PySem.Calls PyProof.Rows PySem.HandSPX
/-! ### an own error whose __init__ says super().__init__(reason); self.reason = reason -/
def rA (p1 p2 : Pos) : Arguments := { posonlyargs := [], args := [{ arg := "self", annotation := none, pos := p1 }, { arg := "reason", annotation := none, pos := p2 }], vararg := none, kwonlyargs := [], kw_defaults := [], kwarg := none, defaults := [] }
def rS : Scope := { kind := .function, names := [(PySem.Str.ofString "self", .local), (PySem.Str.ofString "reason", .local), (PySem.Str.ofString "__class__", .free), (PySem.Str.ofString "super", .globalImplicit)], isGenerator := false, isCoroutine := false, more := [] }
def rB (p0 p1 p2 p3 p4 p5 q1 q2 q3 q4 : Pos) : List Stmt :=
  [.Expr (.Call (.Attribute (.Call (.Name "super" p0) [] [] p1) "__init__" p2) [.Name "reason" p3] [] p4) p5, .Assign [.Attribute (.Name "self" q1) "reason" q2] (.Name "reason" q3) q4]
/-- what the written part says of the class at C, of its __init__ at fI -/
structure RefTxt (P : Program) (K : Frag) (mg : Str → Option Value) (nC : Str) (C fI : Addr) : Prop where
  gC : mg nC = some (.ref C)
  cls : ∃ nm q N bs bm sn sub ab col dd k0 k1 k2 k3 k5, K.lookup C = some (excClassObj nm q C N bs bm true sn sub ab col dd k0 k1 k2 k3 k5 "ValueError.__new__") ∧ refsVE bm = true
  sup : ks_superIn K C C "__init__" = some (some (.builtin "ValueError.__init__"))
  sub : mroIn K C (.ref C) = some true
  sVE : subIn K (.ref C) (.type "ValueError") = some true
  any : nsIn K cStatics "thirdparty.any" = some none
  gS : mg "super" = none
  sa : findIn K (.ref C) "__setattr__" = some (some (.builtin "object.__setattr__"))
  noN : findIn K (.ref C) "reason" = some none
  iC : findIn K (.ref C) "__init__" = some (some (.ref fI))
  tC : typeIn K (.ref fI) = some (.type "function")
  kC : keepIn K (.ref C) = true
  exC : subIn K (.ref C) (.type "BaseException") = some true
  tyC : typeIn K (.ref C) = some (.type "type")
  htop : (P.main.scope.names.lookup ("super" : Str)).isSome = false
  fn : ∃ (oc : Value) (od : Option Addr) (doc pm : Value) (an : Option Addr) (cda cc : Addr) (ct : Value) (osl : Array (Option Value)) (p1 p2 q0 q1 q2 q3 q4 q5 r1 r2 r3 r4 : Pos) (qn : Str),
    K.lookup fI = some ⟨oc, od, .func (ksFn "__init__" qn (rA p1 p2) (rB q0 q1 q2 q3 q4 q5 r1 r2 r3 r4) rS .none .none doc pm an (.ref cda) ct cc), osl⟩ ∧ (q2.endLine == q4.line) = true ∧ codeIn K (.ref cda) qn = true ∧
    (∃ (ccl : Value) (cdd : Option Addr) (vs : Array Value) (ccs : Array (Option Value)) (file : Str) (tf : Tok), K.lookup cda = some ⟨ccl, cdd, .fields vs, ccs⟩ ∧ vs[2]? = some (.str file tf) ∧ ((P.main.file : Str) == file) = true) ∧
    ∃ (cl : Value) (cld : Option Addr) (csl : Array (Option Value)), K.lookup cc = some ⟨cl, cld, .cell (some (.ref C)), csl⟩
theorem one_size (v : Value) : [v].length ≤ sizeLine := by
  rw [sizeLine_eq]
  exact (by decide : 1 ≤ 16777216)
/-- what __init__ leaves of a fresh exception at x -/
structure InitEnd (h h' : Heap) (x C dx t1 : Addr) (v : Value) : Prop where
  keep : ∀ b o, b ≠ x → h.get? b = some o → h'.get? b = some o
  obj : h'.get? x = some { cls := .ref C, dict := some dx, data := .fields #[.ref t1, .none, .none, .none, .bool false, .none] }
  dbig : h.objs.size ≤ dx
  dne : dx ≠ x
  ns : h'.Ns1 dx (fun y => if y = "reason" then some v else none)
structure OwnMade (h h' : Heap) (e C d : Addr) (v : Value) : Prop where
  keep : ∀ b o, h.get? b = some o → h'.get? b = some o
  new : h.objs.size ≤ e
  obj : ∃ oe vs, h'.get? e = some oe ∧ oe.cls = .ref C ∧ oe.dict = some d ∧ oe.data = .fields vs ∧ vs[1]? = some .none
  dbig : h.objs.size ≤ d
  dne : d ≠ e
  ns : h'.Ns1 d (fun y => if y = "reason" then some v else none)
section
variable {prog : Program} {w : World} {A : Around} {E : Value → Shared → Prop} {h : Heap} {g : Array GenState} {d : Drawn} {t : Nat} {os : OsState}
variable {nm q : Str} {C N : Addr} {bs bm : List Value} {hdct : Bool} {sn : List Str} {sub : List Value} {ab : Bool} {col : Option Bool} {dd : Option Addr} {k0 k1 k2 k3 k5 : Option Value}
theorem call_bw {u e t0 : Addr} {rest : List Value} {Q : Value → Shared → Prop}
    (hC : h.get? C = some (excClassObj nm q C N bs bm hdct sn sub ab col dd k0 k1 k2 k3 k5 "ValueError.__new__")) (he : h.get? e = some (HandSPX.excO C t0)) (hu : h.get? u = some (kxs_mw "ValueError.__init__" e)) (hrest : rest.length ≤ sizeLine)
    (hq : ∀ h' t1, (∀ b o, b ≠ e → h.get? b = some o → h'.get? b = some o) → h'.get? e = some (HandSPX.excO C t1) → Q .none ⟨h', g, d, t, os⟩) :
    wpAny (model prog w) A (call (.ref u) rest) Q E ⟨h, g, d, t, os⟩ := by
  refine wpAny_call (codeAny_of_tree ?_)
  show wpAny _ A.in1 (callAny (.ref u) ⟨rest, []⟩) _ _ _
  simp only [callAny]
  refine wpAny_bind (wpAny_load hu ?_)
  simp only [kxs_mw, show (Value.type "method-wrapper" == Value.type "method" || Value.type "method-wrapper" == Value.type "builtin_function_or_method" || Value.type "method-wrapper" == Value.type "method-wrapper") = true by decide, if_true]
  refine W.KFB.if_so (by decide) ?_
  refine wpAny_bind (W.check_bound_init F.excBase_ValueError.toExcCallFacts hC he rfl ?_)
  refine wpAny_bind (wpAny_pure (wpAny_pure ?_))
  refine ⟨Code.quiet_builtin _ (by decide +kernel), codeAny_builtin F.excBase_ValueError.initEntry ?_⟩
  rw [Around.under_plainId F.excBase_ValueError.init.plain _]
  wp_walk
  refine hq _ h.objs.size (fun b o hb ho => ?_) ?_
  · rw [Heap.get?_update_other _ _ (Ne.symm hb)]
    exact Heap.get?_push_of_some _ ho
  · rw [Heap.get?_update_self _ (Heap.get?_push_of_some _ he) rfl]
    rfl
end
section
variable {prog : Program} {w : World} {A : Around} {E : Value → Shared → Prop} {R : Result → Shared → Prop} {s : Shared} {K : Frag} {mg : Str → Option Value} {nC : Str} {C fI : Addr}
theorem ldX {M : Model} {s : Shared} {env : Env} {m : Str → Option Value} {x : Str} {pos : Pos} {v : Value} {Q : Value → Shared → Prop} {A : Around} {E : Value → Shared → Prop} (hn : s.heap.Ns env.locals m) (hv : m x = some v) (h : Q v s)
    (hk : env.scope.kind = .function := by rfl) (hl : env.kindOf x = some .local := by rfl) (hd : (x == ("__debug__" : Str)) = false := by decide) :
    wpAny M A (eval (.Name x pos) env) Q E s := wpAny_Name (wpAny_loadName_local hk hl hn hv h) hd
theorem super_he {o e : PySem.Expr} {name : Str} {apos pos : Pos} {env : Env} (hline : (apos.endLine == pos.line) = true) (hs : starEach [e] env = [(false, eval e env)]) :
    eval (.Call (.Attribute o name apos) [e] [] pos) env = (do
      let ov ← attributeBase o name env (eval o env)
      standAt apos.atName
      let (f, first) ← holding [ov] (getMethod ov name (do return (← importBound o env).getD true))
      callWith pos f first (backTo pos (starEach [e] env)) []) := by
  rw [arm_eval_Call]
  have hform : methodCallForm ([e].length + ([] : List Keyword).length) (backTo pos (starEach [e] env)) (backToKw pos (keywordEach [] env)) = true := by rw [hs]; rfl
  have hpos : methodCallPos true o env apos pos = pure pos := by unfold methodCallPos; simp [hline]
  unfold methodCall
  rw [hform, hpos]
  rfl
theorem ref_init (T : RefTxt prog K mg nC C fI) {x t0 : Addr} {v : Value} (X : K.In s.heap) (hlim : s.heap.NoLimit) (hg : s.heap.Ns mainGlobals mg) (hb : ∃ mb, s.heap.Ns builtinsNs mb ∧ ∀ x : Str, x ≠ "__name__" → mb x = bootBuiltins x)
    (hx : s.heap.get? x = some (excO C t0)) (hnx : K.lookup x = none) (hroom : A.depth < recursionLimit)
    (hq : ∀ h' tk dx t1, InitEnd s.heap h' x C dx t1 v → R (.ok (.ret .none)) { s with heap := h', toks := tk }) :
    codeAny (model prog w) A (.call (.ref fI) ⟨[.ref x, v], []⟩) R s := by
  obtain ⟨oc, od, doc, pm, an, cda, cc, ct, osl, p1, p2, q0, q1, q2, q3, q4, q5, r1, r2, r3, r4, qn, ho, hline, hcd, ⟨ccl, cdd, cvs, ccs, file, tf, hco, hvs, hfile⟩, cl, cld, csl, hcell⟩ := T.fn
  obtain ⟨nm, q, N, bs, bm, sn, sub, ab, col, dd, k0, k1, k2, k3, k5, hC, hbm⟩ := T.cls
  obtain ⟨mb, hb, hmb⟩ := hb
  have hcl : clsIn K C = some { name := nm, bases := bs, mro := .ref C :: bm, ns := N, qualname := q, hasDict := true, slotNames := sn, subclasses := sub, abstract := ab, collection := col, hasDel := false } := by unfold clsIn; rw [hC] <;> rfl
  refine ks_codeAny_call_defAt (fd := ksFn "__init__" qn (rA p1 p2) (rB q0 q1 q2 q3 q4 q5 r1 r2 r3 r4) rS .none .none doc pm an (.ref cda) ct cc) (body := rB q0 q1 q2 q3 q4 q5 r1 r2 r3 r4) (binds := [("self", .ref x), ("reason", v)])
    hroom (X _ _ ho) rfl hlim (codeRec_of X hcd) rfl (BindsTo.of_eq (by first | rfl | with_unfolding_all rfl)) (show ∀ x ∈ rS.names, x.2 ≠ NameKind.cell by decide) (by first | (intro y hy; simp at hy; rcases hy with rfl | rfl <;> rfl) | decide) (fun h₁ hn hk₁ => ?_)
  have X₁ : K.In h₁ := X.keeps hk₁
  have hx₁ := hk₁ _ _ hx
  have hxC : x ≠ C := fun e => by
    have z : s.heap.get? C = _ := X _ _ hC
    rw [← e, hx] at z
    cases z
  obtain ⟨hh, g, dr, tk, os⟩ := s
  show wpAt _ (A.deeper (ksEnv qn rS hh.objs.size fI (.ref cda) cc)) (.func (rB q0 q1 q2 q3 q4 q5 r1 r2 r3 r4) (ksEnv qn rS hh.objs.size fI (.ref cda) cc)) (execs (rB q0 q1 q2 q3 q4 q5 r1 r2 r3 r4) (ksEnv qn rS hh.objs.size fI (.ref cda) cc)) _ _ _
  refine ks_wpAt_execs_cons (ks_wpAt_Expr_any (ks_wpAt_MethodCall (he := super_he hline rfl) ?_))
  refine ks_wpAt_super_base rfl rfl rfl rfl (X₁ _ _ ho) rfl rfl rfl (X₁ _ _ hco) rfl hvs hfile T.htop ?_
  refine ks_loadName_global rfl rfl (loadGlobal_builtin (hg.keeps hk₁) T.gS (hb.keeps hk₁) ((hmb _ (by decide +kernel)).trans (by first | boot_by_name | rfl | kernel_rfl)) ⟨rfl, ?_⟩)
  refine wpAny_loadName_free rfl rfl rfl ⟨_, X₁ _ _ hcell, rfl⟩ ?_
  refine wpAny_loadName_local rfl rfl hn (v := .ref x) (by first | rfl | with_unfolding_all rfl | kernel_rfl) ?_
  refine ks_wpAny_isType_cls (X₁ _ _ hC) rfl ⟨rfl, ?_⟩
  refine ks_wpAny_call_super (X₁ _ _ hC) rfl hx₁ rfl (fun c e => by cases e) (looks_mroIn X₁ T.sub) (fun h₂ hso k₂ => ?_)
  have X₂ : K.In h₂ := X₁.keeps k₂
  have I₂ : InstAt h₂ x (excO C t0) C none := ⟨k₂ _ _ hx₁, rfl, rfl, trivial⟩
  have hsup := T.sup
  unfold ks_superIn at hsup
  rw [hcl] at hsup
  refine kxs_getMethod kxs_ValueError hso (looks_opaque X₂ T.any) (l₀ := .ref C :: bm) (fun A Q E s k q => wpAny_bind ((looks_clsIn X₂ hcl) A _ E s k (wpAny_pure q))) rfl X₂ hsup (I₂.type.andThen (looks_subIn X₂ T.sVE)) hxC (by decide) ?_
  dsimp only
  have hu : (h₂.push (kxs_mw "ValueError.__init__" x)).get? h₂.objs.size = some (kxs_mw "ValueError.__init__" x) := Heap.get?_push_at rfl rfl
  have k₃ : ∀ b o, h₂.get? b = some o → (h₂.push (kxs_mw "ValueError.__init__" x)).get? b = some o := fun b o e => Heap.get?_push_of_some _ e
  refine kxs_callWith (i := "ValueError.__init__") (x := x) (by rfl) (evalArgs_plain ?_)
  refine spliced_more (e := .Name "reason" q3) (rest := []) (env := ksEnv qn rS hh.objs.size fI (.ref cda) cc) (pos := q4) ?_
  refine ldX (v := v) (hn.keeps fun b o e => k₃ b o (k₂ b o e)) (by first | rfl | with_unfolding_all rfl | kernel_rfl) ?_
  refine spliced_none ⟨hu, ?_⟩
  show wpAny _ _ (call _ [v]) _ _ _
  have X₃ : K.In (h₂.push (kxs_mw "ValueError.__init__" x)) := X₂.keeps k₃
  refine call_bw (X₃ _ _ hC) (k₃ _ _ (k₂ _ _ hx₁)) hu (one_size v) (fun h₄ t1 k₄ hx₄ => ?_)
  have nL : hh.objs.size ≠ x := Nat.ne_of_gt (Heap.lt_size hx)
  have X₄ : K.In h₄ := fun b o e => k₄ b o (fun z => by rw [z, hnx] at e; cases e) (X₃ b o e)
  have hn₄ : h₄.Ns hh.objs.size (fun y => ([("self", Value.ref x), ("reason", v)] : List (Str × Value)).reverse.lookup y) := by
    obtain ⟨oL, es, ep, hL, r⟩ := hn
    exact ⟨oL, es, ep, k₄ _ _ nL (k₃ _ _ (k₂ _ _ hL)), r⟩
  refine wpAt_of_wpAny ?_
  show wpAny _ _ (execs _ _) _ _ _
  refine wpAny_execs_cons (plainObj_wpAny_Assign_Attribute ?_)
  refine ldX (v := v) hn₄ (by first | rfl | with_unfolding_all rfl | kernel_rfl) (ldX (v := .ref x) hn₄ (by first | rfl | with_unfolding_all rfl | kernel_rfl) ?_)
  refine set_plain X₄ (ox := excO C t1) (od := none) ⟨hx₄, rfl, rfl, trivial⟩ T.sa ?_
  refine exc_osa X₄ hx₄ hcl (show refsVE (.ref C :: bm) = true from hbm) rfl T.noN (fun h₅ tk₅ dx k₅ dn dne hx₅ hn₅ => ?_)
  show wpAny _ _ (execs _ _) _ _ _
  have kk : ∀ b o, b ≠ x → hh.get? b = some o → h₅.get? b = some o := fun b o n e => k₅ b o n (k₄ b o n (k₃ b o (k₂ b o (hk₁ b o e))))
  refine wpAny_execs_nil (hq h₅ tk₅ dx t1 ⟨kk, hx₅, ?_, dne, hn₅⟩)
  by_cases hd : hh.objs.size ≤ dx
  · exact hd
  · obtain ⟨oL, es, ep, hL, r⟩ := hn₄
    have y : hh.objs.size < h₄.objs.size := Heap.lt_size hL
    exact absurd (Nat.le_of_lt (Nat.lt_of_lt_of_le y dn)) hd
theorem ref_made (T : RefTxt prog K mg nC C fI) {v : Value} (X : K.In s.heap) (hlim : s.heap.NoLimit) (hg : s.heap.Ns mainGlobals mg) (hb : ∃ mb, s.heap.Ns builtinsNs mb ∧ ∀ x : Str, x ≠ "__name__" → mb x = bootBuiltins x) (hroom : A.depth + 1 < recursionLimit)
    (hq : ∀ h' tk e d, OwnMade s.heap h' e C d v → R (.ok (.ret (.ref e))) { s with heap := h', toks := tk }) :
    codeAny (model prog w) A (.call (.ref C) ⟨[v], []⟩) R s := by
  obtain ⟨nm, q, N, bs, bm, sn, sub, ab, col, dd, k0, k1, k2, k3, k5, hC, hbm⟩ := T.cls
  obtain ⟨hp, g, dr, tk, os⟩ := s
  have k : ∀ b o, hp.get? b = some o → ((hp.push (kdv_tup [v])).push (excO C hp.objs.size)).get? b = some o := fun b o e => Heap.get?_push_of_some _ (Heap.get?_push_of_some _ e)
  have hget : ((hp.push (kdv_tup [v])).push (excO C hp.objs.size)).get? (hp.objs.size + 1) = some (excO C hp.objs.size) := by heap_get
  have hnx : K.lookup (hp.objs.size + 1) = none := by
    cases e : K.lookup (hp.objs.size + 1) with
    | none => rfl
    | some o =>
      have z : hp.get? (hp.objs.size + 1) = some o := X _ _ e
      exact absurd (Nat.lt_of_succ_lt (Heap.lt_size z)) (Nat.lt_irrefl _)
  refine call_own F.excBase_ValueError (fun X => refsVE_contains X bm hbm) (X _ _ hC) (looks_findIn X T.iC) (fun self => bind_fn X self T.tC) (one_size v) ?_
  refine ref_init (s := ⟨(hp.push (kdv_tup [v])).push (excO C hp.objs.size), g, dr, tk, os⟩) T (X.keeps k) (hlim.keeps k) (hg.keeps k) (hb.imp fun _ z => ⟨z.1.keeps k, z.2⟩) hget hnx ?_ fun h' tk' dx t1 ⟨k', hx, dn, dne, hns⟩ => ?_
  · show A.depth + 1 < recursionLimit
    exact hroom
  · have old : ∀ b o, hp.get? b = some o → h'.get? b = some o := fun b o e => k' b o (Nat.ne_of_lt (Nat.lt_succ_of_lt (Heap.lt_size e))) (k b o e)
    have z : hp.objs.size + 1 + 1 ≤ dx := by
      first
        | (simpa only [Heap.size_push] using dn)
        | exact dn
        | (have q := dn; rw [Heap.size_push, Heap.size_push] at q; exact q)
    exact ⟨rfl, hq h' tk' (hp.objs.size + 1) dx ⟨old, Nat.le_succ _, ⟨_, _, hx, rfl, rfl, rfl, rfl⟩, Nat.le_trans (Nat.le_trans (Nat.le_succ _) (Nat.le_succ _)) z, dne, hns⟩⟩
end
end RefX
end PySem

namespace L2
open PySem PySem.Spec PyProof.Rows
theorem relO_ref {v : V} {v' : Value} (r : RelV v v') (f : Str) : RelO (List.lookup f [(("reason" : Str), v)]) (if f = "reason" then some v' else none) := by
  by_cases hw : f = "reason"
  · subst hw
    rw [if_pos rfl]
    have q : List.lookup ("reason" : Str) [(("reason" : Str), v)] = some v := by simp [List.lookup]
    rw [q]
    exact r
  · rw [if_neg hw]
    have qw : (f == ("reason" : Str)) = false := by simpa using hw
    have q2 : List.lookup f [(("reason" : Str), v)] = none := by simp [List.lookup, qw]
    rw [q2]
    trivial
section
variable {X : Cx} {C fI : Addr}
/-- Refused(e) -/
def tMkRef (C : Addr) (ta : TA) : St → Hp → XK → Prop := fun σ H Q => ta σ H fun vs H1 => ∃ v, vs = [v] ∧ ∀ d, H1 d = none → Q (.ref C) (some d) (upd H1 d (.xd [(("reason" : Str), v)]))
theorem pmk_ref {a : Expr} {ta : TA} {nC : Str} {p pos : Pos} {k : Nat} (T : PySem.RefX.RefTxt X.prog X.K X.mg nC C fI) (hr : Room k X.A) (ha : PA X [a] ta) (hg : Gl X nC) (hdb : (nC == ("__debug__" : Str)) = false)
    (he : starEach (a :: []) X.env = (false, eval a X.env) :: starEach [] X.env) (hpl : (backTo pos (starEach [] X.env)).any (·.1) = false := by rfl) :
    PMk X (.Call (.Name nC p) [a] [] pos) (tMkRef C ta) := by
  intro pins s σ H Q I h
  refine wpAny_Call_Name_kw (ld_glob I hg T.gC ?_ hdb)
  refine PySem.W.callWith_K (h₀ := X.base) I.ok.mod.kin T.kC (thn (ha.run pos pins s σ H _ I h) fun us s1 hh => ?_) he hpl
  obtain ⟨vs, H1, I1, r1, v, ev, q1⟩ := hh
  subst ev
  refine ⟨I1.kIn, ?_⟩
  cases r1 with
  | cons rv rn =>
    rename_i v' us'
    cases rn
    show wpAny _ _ (call (.ref C) [v']) _ _ _
    have hlim := I1.nolimit
    have hgl := I1.ok.mod.glob.keeps I1.bk
    have hbl : ∃ mb, s1.heap.Ns builtinsNs mb ∧ ∀ x : Str, x ≠ "__name__" → mb x = bootBuiltins x := I1.ok.mod.blt.imp fun _ z => ⟨z.1.keeps I1.bk, z.2⟩
    have kIn := I1.kIn
    obtain ⟨hp, g, dr, tk, os⟩ := s1
    refine wpAny_call (PySem.RefX.ref_made T kIn hlim hgl hbl (by have := hr.dp; omega) fun h' tk' e d M => ?_)
    show MkP X pins σ Q (.ref e) ⟨h', g, dr, tk', os⟩
    obtain ⟨oe, fv, hoe, hc, hd, hdat, h1⟩ := M.obj
    have hns := M.ns
    obtain ⟨G', g1, g2⟩ := restrict h' fun b => decide (b ≠ e)
    have gk : ∀ b, b ≠ e → G'.get? b = h'.get? b := fun b hb => g1 b (decide_eq_true hb)
    have ge : G'.get? e = none := g2 e (by simp)
    have old : ∀ b o, hp.get? b = some o → G'.get? b = some o := fun b o q => (gk b (Nat.ne_of_lt (Nat.lt_of_lt_of_le (Heap.lt_size q) M.new))).trans (M.keep b o q)
    have ob : ObjOk X.prog X.w (upd H1 d (.xd [(("reason" : Str), v)])) G' d (.xd [(("reason" : Str), v)]) :=
      ⟨_, hns.at (fun o q => (gk d M.dne).trans q), fun f => relO_ref rv f⟩
    have J : Inv X pins σ (upd H1 d (.xd [(("reason" : Str), v)])) ⟨G', g, dr, tk', os⟩ := I1.laid (t' := tk') old M.dbig ob
    refine ⟨e, oe, fv, ⟨G', g, dr, tk', os⟩, _, .ref C, some d, rfl, J, fun b o q => ?_, ge, hoe, ⟨hc, hd⟩, hdat, h1, ?_, rfl, I1.bare, raises_own T.exC T.tyC, q1 d (I1.hok.fresh M.dbig)⟩
    · by_cases hb : b = e
      · have q' : G'.get? b = some o := q
        rw [hb, ge] at q'; cases q'
      · exact (gk b hb).symm.trans q
    · rw [upd_ne (Ne.symm M.dne)]
      exact I1.hok.fresh M.new
end
end L2

namespace L2
open PySem PySem.Spec PyProof.Rows
/-! ### several except clauses, with or without a name -/
def wMix (K : PySem.W.Frag) (Wout : WX) (D : Ends) : List (Value × Option Nat × (Addr → Value → Option Addr → TS)) → WX
  | [] => Wout
  | (c, none, ts) :: r => fun cls d σ H => ∃ b, PySem.W.exmOne K cls c = some b ∧ (b = true → ∀ a, H a = none → ts a cls d D σ H) ∧ (b = false → wMix K Wout D r cls d σ H)
  | (c, some i, ts) :: r => fun cls d σ H => ∃ b, PySem.W.exmOne K cls c = some b ∧
      (b = true → ∀ a, H a = none → ts a cls d { nx := fun σ' H' => D.nx (σ'.set i none) H', rt := D.rt, bk := fun σ' H' => D.bk (σ'.set i none) H', ct := fun σ' H' => D.ct (σ'.set i none) H' } (σ.set i (some (.ref a))) H) ∧
      (b = false → wMix K Wout D r cls d σ H)
inductive HdsMx (X : Cx) : List ExceptHandler → List (Value × Option Nat × (Addr → Value → Option Addr → TS)) → Prop
  | nil : HdsMx X [] []
  | cons {x : Str} {c : Value} {ts : Addr → Value → Option Addr → TS} {b₀ : Stmt} {suite : List Stmt} {np pos' : Pos} {hds : List ExceptHandler} {l : List (Value × Option Nat × (Addr → Value → Option Addr → TS))} (hc : Names X x c)
      (hsu : ∀ (a : Addr) (oe : Obj) (cls : Value) (d : Option Addr) (pn : List (Addr × Obj)), Zc cls d oe → (∃ vs, oe.data = .fields vs) → PSs (X.suite a ((a, oe) :: pn)) (b₀ :: suite) (ts a cls d)) (r : HdsMx X hds l) :
      HdsMx X (.ExceptHandler (some (.Name x np)) none (b₀ :: suite) pos' :: hds) ((c, none, ts) :: l)
  | consA {x n : Str} {i : Nat} {c : Value} {ts : Addr → Value → Option Addr → TS} {b₀ : Stmt} {suite : List Stmt} {np pos' : Pos} {hds : List ExceptHandler} {l : List (Value × Option Nat × (Addr → Value → Option Addr → TS))} (hc : Names X x c)
      (hN : X.N.Nodup) (hi : X.N[i]? = some n) (hln : X.env.kindOf n = some .local)
      (hsu : ∀ (a : Addr) (oe : Obj) (cls : Value) (d : Option Addr) (pn : List (Addr × Obj)), Zc cls d oe → (∃ vs, oe.data = .fields vs) → PSs (X.suite a ((a, oe) :: pn)) (b₀ :: suite) (ts a cls d)) (r : HdsMx X hds l) :
      HdsMx X (.ExceptHandler (some (.Name x np)) (some n) (b₀ :: suite) pos' :: hds) ((c, some i, ts) :: l)
section
variable {X : Cx} {body : List Stmt} {h₀ : ExceptHandler} {hds : List ExceptHandler} {l : List (Value × Option Nat × (Addr → Value → Option Addr → TS))} {pos : Pos} {tb : WX → TS} {Wout : WX}
theorem ps_try_mix (hs : X.stack = X.env :: X.outer) (hf : X.env.frame = some X.env.locals) (tk : Takes X Wout)
    (hb : ∀ (W : WX) (pn : List (Addr × Obj)) (xe : Value → Shared → Prop), Takes (X.tr pn xe) W → PassesOwn (model X.prog X.w) X.A X.env xe → PSs (X.tr pn xe) body (tb W))
    (hh : HdsMx X (h₀ :: hds) l) : PS X (.Try body (h₀ :: hds) [] [] pos) (fun D σ H => tb (wMix X.K Wout D l) D σ H) := by
  refine ⟨fun pins s σ H D I h => ?_⟩
  have ok := I.ok
  have hfr : X.A.frames = some (X.env :: X.outer) := by rw [ok.frames, hs]
  refine wpAny_Try_except ?_
  refine wpAny_mono ((hb (wMix X.K Wout D l) (X.pn ++ pins) (fun e s₁ => wpAny (model X.prog X.w) X.A (noteFrame e X.env) (fun _ s₂ => wpAny (model X.prog X.w) X.A (setFlight e none) (fun _ s₃ =>
    wpAny (model X.prog X.w) X.A (handleBy e X.env (h₀ :: hds)) (SP X pins D) X.xe s₃) X.xe s₂) X.xe s₁) (fun u s' xx => ?_) PassesOwn.looking).run [] s σ H D (I.toTry _) h) (fun f s1 hsp => ?_) (fun e s1 he => he)
  · -- the catch
    obtain ⟨a, B, sI, pins', σ', H', cls, d, rfl, J', nb, up, sky, na, os, ag, w⟩ := xx
    have J : Inv X pins σ' H' sI := J'.ofTry ok
    have sky' : Sky B (X.env :: X.outer) a (Zc cls d) X.env.locals s'.heap := by rw [← hs]; exact sky
    show wpAny (model X.prog X.w) X.A (noteFrame (.ref a) X.env) _ _ _
    refine Sky.land Zc.steady hfr hf sky' fun h3 fl3 up3 => ?_
    have J3 : Inv X pins σ' H' { s' with heap := h3 } := J.landed nb fl3.1 (up.trans up3) os ag
    obtain ⟨oe3, vs3, he3, hz3, hd3⟩ := fl3.there
    have notFr : ∀ {h : Heap} {o : Obj} {vs : Array Value}, h.FunFrames B (X.env :: X.outer) → h.get? a = some o → o.data = .fields vs → a ∉ frs (X.env :: X.outer) := fun {h o vs} ff e dd hm => by
      obtain ⟨_, o', e', hnf⟩ := ff.mem hm
      rw [e] at e'; cases e'
      exact hnf _ dd
    have nfr := notFr fl3.2.2.1 he3 hd3
    have nL : a ≠ X.env.locals := fun z => nfr (List.mem_filterMap.mpr ⟨X.env, List.mem_cons_self, by rw [hf, z]⟩)
    have nF : a ∉ X.fs := fun hm => by
      obtain ⟨e, he, q⟩ := List.mem_filterMap.mp hm
      exact nfr (List.mem_filterMap.mpr ⟨e, List.mem_cons_of_mem _ he, q⟩)
    have S3 := J3.suite he3 hd3 na nL nF
    have LT : PySem.W.Looks (model X.prog X.w) h3 (typeOf (.ref a)) cls := fun A Q E s k q => wpAny_typeOf_ref (k _ _ he3) (by rw [hz3.1]; exact q)
    have test : ∀ {x : Str} {np : Pos} {c : Value} {Q : Value → Shared → Prop} {E : Value → Shared → Prop}, Names X x c → Q c { s' with heap := h3 } → wpAny (model X.prog X.w) (X.A.mark (some (.ref a))) (eval (.Name x np) X.env) Q E { s' with heap := h3 } := fun {x np c Q E} hc q => by
      obtain ⟨hg, hdbg, hm | ⟨hm, hv, hnn⟩⟩ := hc
      · exact ld_glob (X := X.suite a ((a, oe3) :: (X.pn ++ pins))) S3 hg hm q hdbg
      · exact ld_blt (X := X.suite a ((a, oe3) :: (X.pn ++ pins))) S3 hg hm hv q hnn hdbg
    have go : ∀ {hds' : List ExceptHandler} {l' : List (Value × Option Nat × (Addr → Value → Option Addr → TS))}, HdsMx X hds' l' → wMix X.K Wout D l' cls d σ' H' →
        wpAny (model X.prog X.w) X.A (handleBy (.ref a) X.env hds') (SP X pins D) X.xe { s' with heap := h3 } := by
      intro hds' l' hk
      induction hk with
      | nil =>
        intro w
        refine wpAny_handleBy_nil ?_
        obtain ⟨k1, k2, k3, oe, vs, T, oT, ts', he, hz, hd, h1, hr⟩ := id fl3
        unfold PySem.passOn
        refine wpAny_bind (wpAny_field he hd h1 ?_)
        rw [if_neg (show ¬ ((Value.ref T == Value.none) = true) from by simp)]
        have fin : wpAny (model X.prog X.w) X.A (setFlight (.ref a) X.env.frame) (fun _ s4 => wpAny (model X.prog X.w) X.A (throw (.ref a) : Sem Flow) (SP X pins D) X.xe s4) X.xe { s' with heap := h3 } := by
          rw [hf]
          refine HandSPX.setFlight_upZ fl3 fun h4 hh4 up4 => wpAny_throw (tk _ _ ?_)
          exact ⟨a, B, sI, pins, σ', H', cls, d, rfl, J, nb, (up.trans up3).trans up4, .inr (.inr (by rw [hs]; exact hh4)), na, os, ag, w⟩
        first
          | exact wpAny_bind (wpAny_pure (wpAny_bind fin))
          | exact wpAny_bind fin
      | @cons x c ts b₀ suite np pos' hds2 l2 hc hsu r ih =>
        intro w
        obtain ⟨b, hb1, hyes, hno⟩ := w
        refine wpAny_handleBy_cons (codeAny_handlers_test ?_) (by intro q; cases q)
        have LM := PySem.W.exm_one (M := model X.prog X.w) (J3.kIn) LT hb1
        refine test hc (LM.here ?_)
        cases b with
        | true =>
          refine codeAny_handlers_suite ?_
          refine HandSPX.lands_againZ fl3 fun h4 fl4 up4 => ?_
          have J4 : Inv X pins σ' H' { s' with heap := h4 } := J.landed nb fl4.1 ((up.trans up3).trans up4) os ag
          obtain ⟨oe4, vs4, he4, hz4, hd4⟩ := fl4.there
          have S4 := J4.suite he4 hd4 na nL nF
          refine wpAny_mono ((hsu a oe4 cls d (X.pn ++ pins) hz4 ⟨_, hd4⟩).run [] _ _ H' _ S4 (hyes rfl a na)) (fun f s6 hsp => ?_) (fun _ _ z => False.elim z)
          cases f with
          | next =>
            obtain ⟨σ6, H6, S6, q6⟩ := hsp
            exact ⟨_, _, S6.unsuite ok, q6⟩
          | brk =>
            obtain ⟨σ6, H6, S6, q6⟩ := hsp
            exact ⟨_, _, S6.unsuite ok, q6⟩
          | cont =>
            obtain ⟨σ6, H6, S6, q6⟩ := hsp
            exact ⟨_, _, S6.unsuite ok, q6⟩
          | ret u =>
            obtain ⟨v6, σ6, H6, S6, r6, q6⟩ := hsp
            exact ⟨_, _, _, S6.unsuite ok, r6, q6⟩
        | false =>
          show wpAny _ X.A (handleBy (.ref a) X.env hds2) _ _ _
          exact ih (hno rfl)
      | @consA x n i c ts b₀ suite np pos' hds2 l2 hc hN hi hln hsu r ih =>
        intro w
        have hloc : Loc X.env.scope n := .inl hln
        obtain ⟨b, hb1, hyes, hno⟩ := w
        refine wpAny_handleBy_cons (codeAny_handlers_test ?_) (by intro q; cases q)
        have LM := PySem.W.exm_one (M := model X.prog X.w) (J3.kIn) LT hb1
        refine test hc (LM.here ?_)
        cases b with
        | true =>
          refine codeAny_handlers_suite_as ?_
          refine HandSPX.lands_againZ fl3 fun h4 fl4 up4 => ?_
          have J4 : Inv X pins σ' H' { s' with heap := h4 } := J.landed nb fl4.1 ((up.trans up3).trans up4) os ag
          obtain ⟨oe4, vs4, he4, hz4, hd4⟩ := fl4.there
          have S4 := J4.suite he4 hd4 na nL nF
          refine store_ok (X := X.suite a ((a, oe4) :: (X.pn ++ pins))) (v := .ref a) S4 hN hi hloc rfl (fun s5 S5 => ?_) (.inr hln)
          refine wpAny_mono ((hsu a oe4 cls d (X.pn ++ pins) hz4 ⟨_, hd4⟩).run [] s5 _ H' _ S5 (hyes rfl a na)) (fun f s6 hsp => ?_) (fun _ _ z => False.elim z)
          have end_ : ∀ {σ6 : St} {H6 : Hp} {Q : Shared → Prop}, Inv (X.suite a ((a, oe4) :: (X.pn ++ pins))) [] σ6 H6 s6 → (∀ s7, Inv X pins (σ6.set i none) H6 s7 → Q s7) →
              wpAny (model X.prog X.w) X.A (do bindName X.env n .none; unbindBehindTheSuite X.env n pos') (fun _ s7 => Q s7) X.xe s6 := fun {σ6 H6 Q} S6 hq => gone_ok (S6.unsuite ok) hN hi hln hq
          cases f with
          | next =>
            obtain ⟨σ6, H6, S6, q6⟩ := hsp
            exact end_ S6 fun s7 J7 => ⟨_, _, J7, q6⟩
          | brk =>
            obtain ⟨σ6, H6, S6, q6⟩ := hsp
            exact end_ S6 fun s7 J7 => ⟨_, _, J7, q6⟩
          | cont =>
            obtain ⟨σ6, H6, S6, q6⟩ := hsp
            exact end_ S6 fun s7 J7 => ⟨_, _, J7, q6⟩
          | ret u =>
            obtain ⟨v6, σ6, H6, S6, r6, q6⟩ := hsp
            exact end_ S6 fun s7 J7 => ⟨_, _, _, J7, r6, q6⟩
        | false =>
          show wpAny _ X.A (handleBy (.ref a) X.env hds2) _ _ _
          exact ih (hno rfl)
    exact go hh w
  · cases f with
    | next =>
      obtain ⟨σ', H', J', q⟩ := hsp
      exact wpAny_execs_nil ⟨σ', H', J'.ofTry ok, q⟩
    | brk =>
      obtain ⟨σ', H', J', q⟩ := hsp
      exact ⟨σ', H', J'.ofTry ok, q⟩
    | cont =>
      obtain ⟨σ', H', J', q⟩ := hsp
      exact ⟨σ', H', J'.ofTry ok, q⟩
    | ret u =>
      obtain ⟨v, σ', H', J', r, q⟩ := hsp
      exact ⟨v, σ', H', J'.ofTry ok, r, q⟩
end
end L2
namespace Mp
open PySem L2

/-! ## raise -/
def sRaise (x : Str) (fs : List (Str × D)) : SS := fun _ M => .exc ⟨x, fs⟩ M
section
variable {X : Cx} {E : WX} {C fI : Addr} {x m : Str} {j k : Nat} {p p2 pos pos2 : Pos}
theorem gs_raiseM (hc : X.calm = true) (tk : Takes X E) (q : PySem.W.excIn X.K C [.type "ValueError", .type "Exception", .type "BaseException", .type "object"] "ValueError.__new__" = true) (gC : X.mg x = some (.ref C)) (kC : PySem.W.keepIn X.K (.ref C) = true)
    (r : Raises X (.ref C)) (hg : Gl X x) (hdb : (x == ("__debug__" : Str)) = false) : GS X E (.Raise (some (.Call (.Name x p) [.Constant (.str m) j p2] [] pos)) none pos2) (sRaise x []) :=
  PS.imp (ps_raise hc tk (pmk_own PySem.F.excBase_ValueError q gC kC r hg hdb)) fun D σ H ⟨W, Z, φ, env, M, R, Er, h⟩ => by
    exact h W [] H (.ref C) none σ (Fin.refl R) ⟨C, gC, rfl, .inl ⟨rfl, rfl⟩⟩ rfl
theorem gs_raiseR (hc : X.calm = true) (tk : Takes X E) (T : PySem.RefX.RefTxt X.prog X.K X.mg x C fI) (hr : Room k X.A) (hg : Gl X x) (hdb : (x == ("__debug__" : Str)) = false)
    (he : starEach (.Constant (.str m) j p2 :: []) X.env = (false, eval (.Constant (.str m) j p2) X.env) :: starEach [] X.env) :
    GS X E (.Raise (some (.Call (.Name x p) [.Constant (.str m) j p2] [] pos)) none pos2) (sRaise x [("reason", .str m)]) :=
  PS.imp (ps_raise hc tk (pmk_ref T hr (pa_cons pe_str pa_nil) hg hdb he)) fun De σ H ⟨W, Z, φ, env, M, R, Er, h⟩ => by
    refine ⟨.str m, rfl, fun d hd => ?_⟩
    have x1 := Ext.laid R (o := .xd [(("reason" : Str), V.str m)]) hd
    have R1 := R.laid0 (o := .xd [(("reason" : Str), V.str m)]) hd
    refine h W [] _ (.ref C) (some d) σ (Fin.of R1 x1) ⟨C, T.gC, rfl, .inr ⟨d, _, rfl, upd_same, fun z => z.elim (fun z => R.wt d z hd) fun z => R.zt d z hd, fun f y e => ?_⟩⟩ rfl
    have e : List.lookup f [(("reason" : Str), Mp.D.str m)] = some y := e
    by_cases hw : f = "reason"
    · subst hw
      have q : List.lookup ("reason" : Str) [(("reason" : Str), Mp.D.str m)] = some (Mp.D.str m) := by simp [List.lookup]
      rw [q] at e
      cases e
      exact ⟨.str m, by simp [List.lookup], .str m⟩
    · have qw : (f == ("reason" : Str)) = false := by simpa using hw
      have q : List.lookup f [(("reason" : Str), Mp.D.str m)] = none := by simp [List.lookup, qw]
      rw [q] at e
      cases e
end

/-! ## except suites -/
abbrev SX := Exc → Option D
def rdX (G : Gm) (i : Option Nat) (a : Addr) (cls : Value) (d : Option Addr) (g : SX) : TE := fun σ H Q => ∃ W Z φ M ex, Rel G W Z φ M H ∧ XR G (Bar W Z) H ex cls d ∧ (∀ j, i = some j → σ[j]? = some (some (.ref a))) ∧
  ∃ x, g ex = some x ∧ ∀ W' H' v, Rel G W' Z φ M H' → Ext W H W' H' → RD G (Bar W' Z) H' x v → Q v H'
abbrev GX (X : Cx) (G : Gm) (i : Option Nat) (a : Addr) (cls : Value) (d : Option Addr) (e : Expr) (g : SX) : Prop := PE X e (rdX G i a cls d g)
def rdXs (G : Gm) (i : Option Nat) (a : Addr) (cls : Value) (d : Option Addr) (g : Exc → Option (List D)) : TA := fun σ H Q => ∃ W Z φ M ex, Rel G W Z φ M H ∧ XR G (Bar W Z) H ex cls d ∧ (∀ j, i = some j → σ[j]? = some (some (.ref a))) ∧
  ∃ x, g ex = some x ∧ ∀ W' H' v, Rel G W' Z φ M H' → Ext W H W' H' → RDs G (Bar W' Z) H' x v → Q v H'
theorem XR.ext {G : Gm} {B B' : Addr → Prop} {H H' : Hp} {e : Exc} {c : Value} {d : Option Addr} (h : XR G B H e c d) (x : Ext B H B' H') : XR G B' H' e c d := by
  obtain ⟨C, h1, h2, h3⟩ := h
  refine ⟨C, h1, h2, h3.imp id fun ⟨dd, fs, e1, e2, nb, k⟩ => ⟨dd, fs, e1, (x.keep dd _ e2 nb).1, (x.keep dd _ e2 nb).2, fun f y e => ?_⟩⟩
  obtain ⟨v, e3, r⟩ := k f y e
  exact ⟨v, e3, r.ext x⟩
section
variable {X : Cx} {G : Gm} {i : Option Nat} {a : Addr} {cls : Value} {d : Option Addr} {e f : Expr} {es : List Expr} {g : SX} {l : Exc → Option (List D)} {k : Nat} {pos : Pos}
theorem gx_con {y : D} {v : V} (h : PE X e (tC v)) (r : ∀ B H, RD G B H y v) : GX X G i a cls d e (fun _ => some y) :=
  PE.imp h fun σ H Q ⟨W, Z, φ, M, ex, R, xr, hi, x, hx, q⟩ => by
    cases hx
    exact q W H v R (Ext.refl _ _) (r _ _)
theorem gx_nil : PA X [] (rdXs G i a cls d fun _ => some []) :=
  PA.imp pa_nil fun σ H Q ⟨W, Z, φ, M, ex, R, xr, hi, x, hx, q⟩ => by
    cases hx
    exact q W H [] R (Ext.refl _ _) .nil
theorem gx_cons (h1 : GX X G i a cls d e g) (h2 : PA X es (rdXs G i a cls d l)) (he : starEach (e :: es) X.env = (false, eval e X.env) :: starEach es X.env) :
    PA X (e :: es) (rdXs G i a cls d fun ex => match g ex, l ex with | some x, some xs => some (x :: xs) | _, _ => none) :=
  PA.imp (pa_cons h1 h2 he) fun σ H Q ⟨W, Z, φ, M, ex, R, xr, hi, x, hx, q⟩ => by
    dsimp only at hx
    cases e1 : g ex with
    | none => rw [e1] at hx; cases hx
    | some y =>
      cases e2 : l ex with
      | none => rw [e1, e2] at hx; cases hx
      | some ys =>
        rw [e1, e2] at hx
        cases hx
        refine ⟨W, Z, φ, M, ex, R, xr, hi, y, e1, fun W1 H1 v R1 x1 r1 => ⟨W1, Z, φ, M, ex, R1, xr.ext x1.bar, hi, ys, e2, fun W2 H2 vs R2 x2 r2 => ?_⟩⟩
        exact q W2 H2 _ R2 (x1.trans x2) (.cons (r1.ext x2.bar) r2)
theorem gx_tup (h : PA X es (rdXs G i a cls d l)) (hl : es.length ≤ 1000) (hn : ∀ ex xs, l ex = some xs → xs.length = es.length) : GX X G i a cls d (.Tuple es k pos) (fun ex => (l ex).map D.tup) :=
  PE.imp (pe_tup h) fun σ H Q ⟨W, Z, φ, M, ex, R, xr, hi, x, hx, q⟩ => by
    dsimp only at hx
    cases e : l ex with
    | none => rw [e] at hx; cases hx
    | some xs =>
      rw [e] at hx
      cases hx
      refine ⟨W, Z, φ, M, ex, R, xr, hi, xs, e, fun W1 H1 vs R1 x1 r1 => ⟨?_, fun tp htp => ?_⟩⟩
      · rw [← r1.length, hn ex xs e, sizeLine_eq]; omega
      · have x2 := Ext.laid R1 (o := .tup vs) htp
        refine q W1 _ _ (R1.laid0 htp) (x1.trans x2) (.tup (.inl ⟨upd_same, fun z => z.elim (fun z => R1.wt tp z htp) fun z => R1.zt tp z htp⟩) (r1.ext x2.bar))
end
section
variable {X : Cx} {i : Nat} {a C : Addr} {oe : Obj} {cls : Value} {d : Option Addr} {pn : List (Addr × Obj)} {n f nC : Str} {p pos : Pos}
theorem gx_fld (T : XfC X.K C) (hno : PySem.W.findIn X.K (.ref C) f = some none) (gC : X.mg nC = some (.ref C)) (hz : Zc cls d oe) (hf : ∃ vs, oe.data = .fields vs) (hN : X.N[i]? = some n) (hv : Vis X.env.scope n) (hd : (n == ("__debug__" : Str)) = false) (hcd : (n == ("__classdict__" : Str)) = false)
    (hb : attributeBase (.Name n p) f X.env (eval (.Name n p) X.env) = eval (.Name n p) X.env) :
    GX (X.suite a ((a, oe) :: pn)) (gm X) (some i) a cls d (.Attribute (.Name n p) f pos) (fun ex => if ex.cls = nC then ex.fs.lookup f else none) :=
  PE.imp (pe_xf T hno hz hf (pe_var (X := X.suite a ((a, oe) :: pn)) (i := i) hN hv hd hcd) hb) fun σ H Q ⟨W, Z, φ, M, ex, R, xr, hi, x, hx, q⟩ => by
    dsimp only at hx
    split at hx
    · rename_i hcl
      obtain ⟨C', h1, h2, h3⟩ := xr
      rw [hcl] at h1
      have e : C' = C := by
        have z : some (Value.ref C) = some (Value.ref C') := gC.symm.trans h1
        cases z; rfl
      subst e
      rcases h3 with ⟨h3, _⟩ | ⟨dd, fs, e1, e2, nb, k⟩
      · rw [h3] at hx; cases hx
      · obtain ⟨v, e3, r⟩ := k f x hx
        exact ⟨.ref a, hi i rfl, rfl, h2, dd, fs, v, e1, e2, e3, q W H v R (Ext.refl _ _) r⟩
    · cases hx
end

/-! ## try -/
structure Hd where
  nm : Str
  c : Value
  oi : Option Nat
  g : SX
def hdRun (ct : Str → Str → Option Bool) (e : Exc) : List (Str × SX) → Option (Option D)
  | [] => some none
  | (x, g) :: r => match ct e.cls x with
    | none => none
    | some true => match g e with
      | some y => some (some y)
      | none => none
    | some false => hdRun ct e r
def sTry (ct : Str → Str → Option Bool) (s : SS) (hs : List (Str × SX)) : SS := fun env M => match s env M with
  | .exc e M1 => match hdRun ct e hs with
    | none => .bad
    | some none => .exc e M1
    | some (some y) => .ok (.ret (.d y)) M1
  | r => r
def Hd.ent (X : Cx) (h : Hd) : Value × Option Nat × (Addr → Value → Option Addr → TS) := (h.c, h.oi, fun a cls d => tRet (rdX (gm X) h.oi a cls d h.g))
/-- the table of the classes holds -/
def CtOk (X : Cx) (ct : Str → Str → Option Bool) (x : Str) (c : Value) : Prop := ∀ ec b, ct ec x = some b → ∀ C, X.mg ec = some (.ref C) → PySem.W.exmOne X.K (.ref C) c = some b
section
variable {X : Cx} {E : WX} {body : List Stmt} {h₀ : ExceptHandler} {hds : List ExceptHandler} {pos : Pos} {s : SS} {l : List Hd} {ct : Str → Str → Option Bool}
theorem hd_run {W Z : Addr → Prop} {φ : List Addr} {H : Hp} {n : Nat} {M : Mem} {D : Ends} {e : Exc} (hct : ∀ h ∈ l, CtOk X ct h.nm h.c) (hsl : ∀ h ∈ l, ∀ i, h.oi = some i → i < n)
    (hr : match hdRun ct e (l.map fun h => (h.nm, h.g)) with
      | none => False
      | some none => RunS (gm X) Z φ W H n (.exc e M) D E
      | some (some y) => RunS (gm X) Z φ W H n (.ok (.ret (.d y)) M) D E) :
    RunS (gm X) Z φ W H n (.exc e M) D (wMix X.K E D (l.map (Hd.ent X))) := by
  intro W' ψ H' c d σ' fin xr hl
  induction l with
  | nil => exact hr W' ψ H' c d σ' fin xr hl
  | cons h r ih =>
    have hC := xr
    obtain ⟨C, h1, h2, h3⟩ := hC
    rw [List.map_cons] at hr
    unfold hdRun at hr
    have key : ∃ b, PySem.W.exmOne X.K c h.c = some b ∧ (b = true → ∃ y, h.g e = some y ∧ RunS (gm X) Z φ W H n (.ok (.ret (.d y)) M) D E) ∧ (b = false → wMix X.K E D (r.map (Hd.ent X)) c d σ' H') := by
      cases e1 : ct e.cls h.nm with
      | none => rw [e1] at hr; exact hr.elim
      | some b =>
        rw [e1] at hr
        refine ⟨b, by rw [h2]; exact hct h List.mem_cons_self _ _ e1 C h1, fun hb => ?_, fun hb => ?_⟩
        · subst hb
          dsimp only at hr
          cases e2 : h.g e with
          | none => rw [e2] at hr; exact hr.elim
          | some y => rw [e2] at hr; exact ⟨y, rfl, hr⟩
        · subst hb
          exact ih (fun g hg => hct g (.tail _ hg)) (fun g hg => hsl g (.tail _ hg)) hr
    obtain ⟨b, hb, hy, hn⟩ := key
    have suite : ∀ (D' : Ends) (σ1 : St) (a : Addr), D'.rt = D.rt → (∀ j, h.oi = some j → σ1[j]? = some (some (.ref a))) → b = true → tRet (rdX (gm X) h.oi a c d h.g) D' σ1 H' := fun D' σ1 a e0 hi hb => by
      obtain ⟨y, e2, q⟩ := hy hb
      show rdX (gm X) h.oi a c d h.g σ1 H' D'.rt
      rw [e0]
      refine ⟨W', Z, φ ++ ψ, M, e, fin.rel, xr, hi, y, e2, fun W2 H2 v R2 x2 r2 => ?_⟩
      refine q W2 ψ H2 v ⟨R2, fin.ext.trans x2, fin.new⟩ ?_
      exact r2
    obtain ⟨nm, hc, oi, g⟩ := h
    cases oi with
    | none => exact ⟨b, hb, fun hb a _ => suite D σ' a rfl (fun j z => by cases z) hb, hn⟩
    | some i => exact ⟨b, hb, fun hb a _ => suite _ _ a rfl (fun j z => by
        cases z
        exact List.getElem?_set_self (by rw [hl]; exact hsl _ List.mem_cons_self i rfl)) hb, hn⟩
theorem gs_try (hs : X.stack = X.env :: X.outer) (hf : X.env.frame = some X.env.locals) (tk : Takes X E)
    (hb : ∀ (W : WX) (pn : List (Addr × Obj)) (xe : Value → Shared → Prop), Takes (X.tr pn xe) W → PassesOwn (model X.prog X.w) X.A X.env xe → GSs (X.tr pn xe) W body s)
    (hh : HdsMx X (h₀ :: hds) (l.map (Hd.ent X))) (hct : ∀ h ∈ l, CtOk X ct h.nm h.c) (hsl : ∀ h ∈ l, ∀ i, h.oi = some i → i < X.N.length) :
    GS X E (.Try body (h₀ :: hds) [] [] pos) (sTry ct s (l.map fun h => (h.nm, h.g))) := by
  have P := ps_try_mix (X := X) (pos := pos) (tb := fun W => rdS (gm X) s W) (Wout := E) hs hf tk hb hh
  refine ⟨fun pins sh σ H D I h => P.run pins sh σ H D I ?_⟩
  have ln := I.len
  obtain ⟨W, Z, φ, env, M, R, Er, h⟩ := h
  refine ⟨W, Z, φ, env, M, R, Er, ?_⟩
  unfold sTry at h
  cases e : s env M with
  | ok fl M1 => rw [e] at h; cases fl <;> exact h
  | bad => rw [e] at h; exact h
  | exc ex M1 =>
    rw [e] at h
    refine hd_run (E := E) hct (fun h hm i hi => by rw [ln]; exact hsl h hm i hi) ?_
    dsimp only at h
    cases e2 : hdRun ct ex (l.map fun h => (h.nm, h.g)) with
    | none => rw [e2] at h; exact h
    | some o =>
      rw [e2] at h
      cases o with
      | none => exact h
      | some y => exact h
end
end Mp

namespace Mp
open PySem L2 PySem.Spec PyProof.Rows

/-! ## functions -/
def initEnv (n : Nat) (avs : List AV) : Env := avs.map (fun a => some a.settle) ++ List.replicate (n - avs.length) none
def finRet (n : Nat) (av : AV) (M : Mem) : Out AV := match av with
  | .cell i => if i < n then .ok (.cell i) (M.take n) else match M[i]? with
    | some (some (.l xs)) => .ok (.fr xs) (M.take n)
    | _ => .bad
  | av => .ok av (M.take n)
def fnRun (np n : Nat) (b : SS) (avs : List AV) (M : Mem) : Out AV :=
  if avs.length = np then match b (initEnv n avs) M with
    | .ok (.ret av) M' => finRet M.length av M'
    | .ok (.next _) M' => .ok (.d .non) (M'.take M.length)
    | .exc e M' => .exc e (M'.take M.length)
    | _ => .bad
  else .bad

section
variable {G : Gm} {W W' Z : Addr → Prop} {φ ψ : List Addr} {H H' : Hp} {M M' : Mem}
theorem Rel.dropTo (R : Rel G W Z (φ ++ ψ) M' H) {n : Nat} (h : φ.length = n) : Rel G W Z φ (M'.take n) H := by
  have hl := R.len
  rw [List.length_append] at hl
  refine ⟨by rw [List.length_take]; omega, (List.nodup_append.mp R.nd).1, R.wt, R.zt, fun i p e => R.sep i p (by rw [List.getElem?_append_left (List.getElem?_eq_some_iff.mp e).1]; exact e), fun i p c e1 e2 => ?_⟩
  have hi := (List.getElem?_eq_some_iff.mp e1).1
  refine R.cell i p c (by rw [List.getElem?_append_left hi]; exact e1) ?_
  rw [List.getElem?_take_of_lt (by omega)] at e2
  exact e2
theorem SRs.at {B : Addr → Prop} : ∀ {avs : List AV} {vs : List V} {i : Nat} {a : AV}, SRs G B φ H avs vs → avs[i]? = some a → ∃ v, vs[i]? = some v ∧ SR G B φ H a v
  | [], [], _, _, _, e => by simp at e
  | [], _ :: _, _, _, h, _ => h.elim
  | _ :: _, [], _, _, h, _ => h.elim
  | x :: xs, y :: ys, 0, a, ⟨h, _⟩, e => by simp at e; subst e; exact ⟨y, rfl, h⟩
  | x :: xs, y :: ys, i + 1, a, ⟨_, h⟩, e => by
    obtain ⟨v, e1, r⟩ := SRs.at (i := i) h (by simpa using e)
    exact ⟨v, by simpa using e1, r⟩
theorem start_env {B : Addr → Prop} {N : List Str} {avs : List AV} {vs : List V} (h : SRs G B φ H avs vs) : EnvR G B φ H (initEnv N.length avs) (L2.start N vs) := by
  have hl := h.length
  refine ⟨by unfold initEnv L2.start; simp [hl], fun i av e => ?_⟩
  unfold initEnv at e
  unfold L2.start
  by_cases hi : i < avs.length
  · rw [List.getElem?_append_left (by simpa using hi), List.getElem?_map] at e
    cases e1 : avs[i]? with
    | none => rw [e1] at e; cases e
    | some a =>
      rw [e1] at e
      cases e
      obtain ⟨v, e2, r⟩ := h.at e1
      refine ⟨v, ?_, r.settle⟩
      rw [List.getElem?_append_left (by rw [List.length_map, ← hl]; exact hi), List.getElem?_map, e2]
      rfl
  · rw [List.getElem?_append_right (by simpa using hi)] at e
    rw [List.getElem?_replicate] at e
    split at e <;> cases e
/-- what leaves a def -/
theorem ret_run {Q : VK} {E : XK} {av : AV} {v : V} (hl : φ.length = M.length) (f : Fin G Z φ W H M' W' ψ H') (r : VR G W' Z (φ ++ ψ) H H' M' av v) (h : Run G Z φ W H (finRet M.length av M') Q E) : Q v H' := by
  have plain : (∀ i, av ≠ .cell i) → (∀ xs, av ≠ .fr xs) → Run G Z φ W H (.ok av (M'.take M.length)) Q E → Q v H' := fun n1 n2 h => by
    refine h W' H' v (f.rel.dropTo hl) f.ext ?_
    cases av with
    | cell i => exact absurd rfl (n1 i)
    | fr xs => exact absurd rfl (n2 xs)
    | d x => exact r
    | scr ns => exact r
  cases av with
  | d x => exact plain (fun _ z => by cases z) (fun _ z => by cases z) h
  | scr x => exact plain (fun _ z => by cases z) (fun _ z => by cases z) h
  | fr xs =>
    obtain ⟨p, vs, e, h0, h1, h2, h3, R2⟩ := r
    exact h W' H' v (f.rel.dropTo hl) f.ext ⟨p, vs, e, h0, h1, h2, h3, R2.dropTo hl⟩
  | cell i =>
    by_cases hi : i < M.length
    · have h : Run G Z φ W H (.ok (.cell i) (M'.take M.length)) Q E := by simpa only [finRet, if_pos hi] using h
      refine h W' H' v (f.rel.dropTo hl) f.ext ?_
      obtain ⟨p, e, rfl⟩ := r
      exact ⟨p, by rw [List.getElem?_append_left (by rw [hl]; exact hi)] at e; exact e, rfl⟩
    · have h : Run G Z φ W H (match M'[i]? with | some (some (.l xs)) => .ok (.fr xs) (M'.take M.length) | _ => .bad) Q E := by simpa only [finRet, if_neg hi] using h
      cases e1 : M'[i]? with
      | none => rw [e1] at h; exact h.elim
      | some oc =>
      cases oc with
      | none => rw [e1] at h; exact h.elim
      | some mc =>
        cases mc with
        | t _ => rw [e1] at h; exact h.elim
        | k _ => rw [e1] at h; exact h.elim
        | l xs =>
        rw [e1] at h
        obtain ⟨p, e, rfl⟩ := r
        obtain ⟨w, vs, hp, rd⟩ := f.rel.cell i p _ e e1
        have hs := f.rel.sep i p e
        have hnew : H p = none := by
          refine f.new p ?_
          rw [List.getElem?_append_right (by rw [hl]; omega)] at e
          exact List.mem_of_getElem? e
        let W2 : Addr → Prop := fun a => W' a ∧ a ≠ p
        have ls : ∀ a, add1 (Bar W2 Z) p a → Bar W' Z a := fun a z => by
          rcases z with (z | z) | z
          · exact .inl z.1
          · exact .inr z
          · subst z; exact .inl w
        have hnp : ∀ j : Nat, φ[j]? ≠ some p := fun j ej => by
          have hj := (List.getElem?_eq_some_iff.mp ej).1
          have e2 : (φ ++ ψ)[j]? = some p := by rw [List.getElem?_append_left hj]; exact ej
          have hk := (List.getElem?_eq_some_iff.mp e).1
          have := (List.getElem?_inj (l := φ ++ ψ) (i := j) (j := i) (by rw [List.length_append]; omega) f.rel.nd).mp (e2.trans e.symm)
          omega
        have R1 : Rel G W' Z φ (M'.take M.length) H' := f.rel.dropTo hl
        have x1 : Ext W' H' W2 H' := Ext.less fun a z => z.1
        have R2 : Rel G W2 (add1 Z p) φ (M'.take M.length) H' := by
          refine ⟨R1.len, R1.nd, fun a z => R1.wt a z.1, fun a z => z.elim (R1.zt a) fun z => by subst z; rw [hp]; simp, fun j q ej => ⟨(R1.sep j q ej).1, fun z => z.elim (R1.sep j q ej).2 fun z => by subst z; exact hnp j ej⟩, fun j q c ej ec => ?_⟩
          obtain ⟨wq, r⟩ := R1.cell j q c ej ec
          have hq : q ≠ p := fun z => by subst z; exact hnp j ej
          refine ⟨⟨wq, hq⟩, r.ext (Ext.less fun a z => ?_) rfl⟩
          rcases z with z | z | z
          · exact .inl z.1
          · exact .inr z
          · subst z; exact .inl w
        exact h W2 H' (.ref p) R2.unbar (f.ext.trans x1) ⟨p, vs, rfl, hnew, hp, fun z => z.elim (fun z => z.2 rfl) hs.2, rd.less ls, R2⟩
end

/-- a def that may be called -/
structure CalD (P : Program) (w : World) (K : PySem.W.Frag) (mg : Str → Option Value) (base : Heap) (k : Nat) (x : Str) (F : List AV → Mem → Out AV) : Prop where
  ex : ∃ f fd ps, mg x = some (.ref f) ∧ PySem.W.keepIn K (.ref f) = true ∧ Binds K fd ps [] ∧ FnOk P w K mg base (L2.CX P w) k f fd ps (spOf ⟨K, mg⟩ F)
theorem CalD.cald {X : Cx} {k : Nat} {x : Str} {F : List AV → Mem → Out AV} (c : CalD X.prog X.w X.K X.mg X.base k x F) : Cald X k x F := ⟨c.ex⟩
theorem CalD.mono {P : Program} {w : World} {K : PySem.W.Frag} {mg : Str → Option Value} {base : Heap} {j k : Nat} {x : Str} {F : List AV → Mem → Out AV} (c : CalD P w K mg base j x F) (h : j ≤ k) : CalD P w K mg base k x F :=
  let ⟨f, fd, ps, h1, h2, h3, h4⟩ := c.ex
  ⟨f, fd, ps, h1, h2, h3, h4.mono h⟩
section
variable {P : Program} {w : World} {K : PySem.W.Frag} {mg : Str → Option Value} {base : Heap} {x : Str} {st : Stmt} {f : Addr} {fd : FuncData} {N ps : List Str} {k : Nat} {b : SS}
abbrev cxf (P : Program) (w : World) (K : PySem.W.Frag) (mg : Str → Option Value) (base : Heap) (N : List Str) (x : Str) (st : Stmt) (f : Addr) (cdv : Value) (A : Around) (outer : List PySem.Env) (s : Shared) (H : Hp) (E : XK) : Cx :=
  cxOf (L2.CX P w) P w K mg base N x (defScope st) f cdv A outer s H E
theorem fn_ok (F : Fun K x x st f fd) (S : FnScope N ps (defScope st))
    (body : ∀ (cdv : Value) (A : Around) (outer : List PySem.Env) (s : Shared) (H : Hp) (E : XK), Room k (A.deeper (envOfC x (defScope st) s.heap.objs.size f cdv)) →
      GSs (cxf P w K mg base N x st f cdv A outer s H E) (fun cls d _ H' => E cls d H') (defBody st) b) : FnOk P w K mg base (L2.CX P w) (k + 1) f fd ps (spOf ⟨K, mg⟩ (fnRun ps.length N.length b)) := by
  refine F.okX S (fun vs H Q E ⟨W, Z, φ, M, avs, R, rs, h⟩ => ?_) (fun cdv A outer s H vs Q E hr ⟨W, Z, φ, M, avs, R, rs, h⟩ => ⟨_, body cdv A outer s H E hr, ?_⟩)
  · unfold fnRun at h
    split at h
    · rename_i e; rw [← rs.length]; exact e
    · exact h.elim
  · unfold fnRun at h
    split at h
    · rename_i hn
      refine ⟨W, Z, φ, initEnv N.length avs, M, R, start_env rs, ?_⟩
      cases e : b (initEnv N.length avs) M with
      | bad => rw [e] at h; exact h.elim
      | exc ex M' =>
        rw [e] at h
        exact fun W' ψ H' c d σ' fin xr _ => h W' H' c d (fin.rel.dropTo R.len) fin.ext xr
      | ok fl M' =>
        rw [e] at h
        cases fl with
        | next e' => exact fun W' ψ H' σ' fin _ _ => h W' H' .non (fin.rel.dropTo R.len) fin.ext (by show RD _ _ _ _ _; exact .non)
        | ret av => exact fun W' ψ H' v fin r => ret_run R.len fin r h
        | brk e' => exact h.elim
        | cont e' => exact h.elim
    · exact h.elim
end

/-! ## the law -/
def spLaw (K : PySem.W.Frag) (n : Nat) : Sp := fun vs H Q _ => ∃ (a : Addr) (ns : List Int), vs = [.ref a] ∧ Only H ∧ SqL K H a (ns.map V.int) ∧ ns.length ≤ n ∧ ∀ H' : Hp, Q (.bl true) H'
theorem law_sp {K : PySem.W.Frag} {mg : Str → Option Value} {n : Nat} {F : List AV → Mem → Out AV} (hF : ∀ ns : List Int, ns.length ≤ n → ∃ M, F [.scr ns] [] = .ok (.d (.bl true)) M) :
    ∀ vs H Q E, spLaw K n vs H Q E → spOf ⟨K, mg⟩ F vs H Q E := by
  rintro vs H Q E ⟨a, ns, rfl, hO, hS, hl, q⟩
  obtain ⟨M, e⟩ := hF ns hl
  refine ⟨fun _ => False, fun _ => False, [], [], [.scr ns], ⟨rfl, List.nodup_nil, fun _ z => z.elim, fun _ z => z.elim, fun i p e => by simp at e, fun i p c e => by simp at e⟩, ⟨⟨a, rfl, ?_⟩, trivial⟩, ?_⟩
  · rcases hS with h | h
    · rcases hO a with z | ⟨o, xs, z⟩
      · rcases h with h | ⟨o, h⟩
        · rw [z] at h; cases h
        · rw [z] at h; cases h
      · rcases h with h | ⟨o', h⟩
        · rw [z] at h; cases h
        · exact .inl ⟨o', h, fun z => z.elim id id⟩
    · exact .inr h
  · rw [e]
    intro W' H' v R x r
    have r : RD _ _ _ (.bl true) v := r
    cases r
    exact q H'
theorem cx_no {P : Program} {w : World} (H : Hp) (s : Shared) (e : Value) (s' : Shared) (h : L2.CX P w [] H s (fun _ _ _ => False) e s') : False := by
  obtain ⟨_, _, _, _, _, _, _, _, _, _, _, _, h⟩ := h
  exact h
end Mp

namespace Mp
open PySem L2 PySem.Spec PyProof.Rows
section
variable {X : Cx} {E : WX} {a b o i v e : Expr} {es : List Expr} {f g fo fi fv : SE} {l : SL} {pos p p2 apos tpos : Pos}
/-! ## the builtins, called -/
section
variable (hc : X.calm = true) (hl : GL X E (e :: es) l) (he : starEach (e :: es) X.env = (false, eval e X.env) :: starEach es X.env) (hpl : (backTo pos (starEach es X.env)).any (·.1) = false)
include hc hl he hpl
theorem gc_len (hg : Gl X "len") (hm : X.mg "len" = none) : GE X E (.Call (.Name "len" p) (e :: es) [] pos) (sArgs lenOp l) :=
  ge_bi (fun h => pe_callB (call_len_seq.or call_len_str) hg hm boot_len h (he := he) (hpl := hpl)) hl fun W Z φ M H avs vs Q E R r h => len_run R r h
theorem gc_all (hg : Gl X "all") (hm : X.mg "all" = none) : GE X E (.Call (.Name "all" p) (e :: es) [] pos) (sArgs allOp l) :=
  ge_bi (fun h => pe_callB (cr_all hc) hg hm boot_all h (he := he) (hpl := hpl)) hl fun W Z φ M H avs vs Q E R r h => all_run R r h
theorem gc_any (hg : Gl X "any") (hm : X.mg "any" = none) : GE X E (.Call (.Name "any" p) (e :: es) [] pos) (sArgs anyOp l) :=
  ge_bi (fun h => pe_callB (cr_any hc) hg hm boot_any h (he := he) (hpl := hpl)) hl fun W Z φ M H avs vs Q E R r h => any_run R r h
theorem gc_sum (hg : Gl X "sum") (hm : X.mg "sum" = none) : GE X E (.Call (.Name "sum" p) (e :: es) [] pos) (sArgs sumOp l) :=
  ge_bi (fun h => pe_callB (cr_sum hc) hg hm boot_sum h (he := he) (hpl := hpl)) hl fun W Z φ M H avs vs Q E R r h => sum_run R r h
theorem gc_max (hg : Gl X "max") (hm : X.mg "max" = none) : GE X E (.Call (.Name "max" p) (e :: es) [] pos) (sArgs maxOp l) :=
  ge_bi (fun h => pe_callB ((cr_max hc).or (call_max2 hc)) hg hm boot_max h (he := he) (hpl := hpl)) hl fun W Z φ M H avs vs Q E R r h => max_run R r h
theorem gc_min (hg : Gl X "min") (hm : X.mg "min" = none) : GE X E (.Call (.Name "min" p) (e :: es) [] pos) (sArgs minOp l) :=
  ge_bi (fun h => pe_callB ((cr_min hc).or (call_min2 hc)) hg hm boot_min h (he := he) (hpl := hpl)) hl fun W Z φ M H avs vs Q E R r h => min_run R r h
theorem gc_abs (hg : Gl X "abs") (hm : X.mg "abs" = none) : GE X E (.Call (.Name "abs" p) (e :: es) [] pos) (sArgs absOp l) :=
  ge_bi (fun h => pe_callB call_abs hg hm boot_abs h (he := he) (hpl := hpl)) hl fun W Z φ M H avs vs Q E R r h => abs_run R r h
theorem gc_int (hg : Gl X "int") (hm : X.mg "int" = none) : GE X E (.Call (.Name "int" p) (e :: es) [] pos) (sArgs intOp l) :=
  ge_bi (fun h => pe_callTy call_int1 hg hm boot_int h (he := he) (hpl := hpl)) hl fun W Z φ M H avs vs Q E R r h => int_run R r h
theorem gc_tuple (hg : Gl X "tuple") (hm : X.mg "tuple" = none) : GE X E (.Call (.Name "tuple" p) (e :: es) [] pos) (sArgs tupleOp l) :=
  ge_bi (fun h => pe_callTy call_tuple_of hg hm boot_tuple h (he := he) (hpl := hpl)) hl fun W Z φ M H avs vs Q E R r h => tuple_run R r h
theorem gc_list (hg : Gl X "list") (hm : X.mg "list" = none) : GE X E (.Call (.Name "list" p) (e :: es) [] pos) (sArgs listOp l) :=
  ge_bi (fun h => pe_callTy call_list_of hg hm boot_list h (he := he) (hpl := hpl)) hl fun W Z φ M H avs vs Q E R r h => list_run R r h
theorem gc_sorted (hg : Gl X "sorted") (hm : X.mg "sorted" = none) : GE X E (.Call (.Name "sorted" p) (e :: es) [] pos) (sArgs sortedOp l) :=
  ge_bi (fun h => pe_callB cr_sortedI hg hm boot_sorted h (he := he) (hpl := hpl)) hl fun W Z φ M H avs vs Q E R r h => sorted_run R r h
theorem gc_str (hg : Gl X "str") (hm : X.mg "str" = none) : GE X E (.Call (.Name "str" p) (e :: es) [] pos) (sArgs strOp l) :=
  ge_bi (fun h => pe_callTy (call_str_int.or SkE.call_str_str) hg hm boot_str h (he := he) (hpl := hpl)) hl fun W Z φ M H avs vs Q E R r h => str_run R r h
end
/-! ## slices -/
theorem gk_00 (ha : GE X E a f) : GE X E (.Subscript a (.Slice none none none p2) pos) (sSlice f none none) :=
  ge_slice ha po_none po_none (fun _ => ⟨rfl, rfl⟩) (fun e h => by cases h) (fun _ => ⟨rfl, rfl⟩) (fun e h => by cases h)
theorem gk_10 (ha : GE X E a f) (hb : GE X E b g) : GE X E (.Subscript a (.Slice (some b) none none p2) pos) (sSlice f (some g) none) :=
  ge_slice ha (po_some hb) po_none (fun h => by cases h) (fun e h => by cases h; exact ⟨g, rfl, rfl⟩) (fun _ => ⟨rfl, rfl⟩) (fun e h => by cases h)
theorem gk_01 (ha : GE X E a f) (hb : GE X E b g) : GE X E (.Subscript a (.Slice none (some b) none p2) pos) (sSlice f none (some g)) :=
  ge_slice ha po_none (po_some hb) (fun _ => ⟨rfl, rfl⟩) (fun e h => by cases h) (fun h => by cases h) (fun e h => by cases h; exact ⟨g, rfl, rfl⟩)
theorem gk_11 {c : Expr} {h : SE} (ha : GE X E a f) (hb : GE X E b g) (hc : GE X E c h) : GE X E (.Subscript a (.Slice (some b) (some c) none p2) pos) (sSlice f (some g) (some h)) :=
  ge_slice ha (po_some hb) (po_some hc) (fun h => by cases h) (fun e h => by cases h; exact ⟨g, rfl, rfl⟩) (fun h => by cases h) (fun e hh => by cases hh; exact ⟨h, rfl, rfl⟩)
/-! ## constants -/
theorem gn_int {n : Int} {j : Nat} : GE X E (.Constant (.int n) j pos) (sCon (.int n)) := ge_con pe_int fun _ _ => .int n
theorem gn_bl {n : Bool} {j : Nat} : GE X E (.Constant (.bool n) j pos) (sCon (.bl n)) := ge_con pe_bl fun _ _ => .bl n
theorem gn_str {n : Str} {j : Nat} : GE X E (.Constant (.str n) j pos) (sCon (.str n)) := ge_con pe_str fun _ _ => .str n
theorem gn_non {j : Nat} : GE X E (.Constant .none j pos) (sCon .non) := ge_con pe_non fun _ _ => .non
/-- a constant of the module -/
structure Cst (G : Gm) (x : Str) (d : D) : Prop where
  ex : ∃ (u : Value) (v : V), G.mg x = some u ∧ RelV v u ∧ ∀ B H, RD G B H d v
theorem Cst.of_int {G : Gm} {x : Str} {n : Int} {t : Tok} (h : G.mg x = some (.int n t)) : Cst G x (.int n) := ⟨⟨_, .int n, h, ⟨t, rfl⟩, fun _ _ => .int n⟩⟩
theorem Cst.of_str {G : Gm} {x : Str} {n : Str} {t : Tok} (h : G.mg x = some (.str n t)) : Cst G x (.str n) := ⟨⟨_, .str n, h, ⟨t, rfl⟩, fun _ _ => .str n⟩⟩
theorem ge_cst {x : Str} {d : D} (c : Cst (gm X) x d) (hg : Gl X x) (hd : (x == ("__debug__" : Str)) = false) : GE X E (.Name x pos) (sCon d) := by
  obtain ⟨u, v, h1, h2, h3⟩ := c.ex
  exact ge_con (pe_glob hg h1 h2 hd) h3
/-! ## stores -/
theorem gs_setI' (hv : GE X E v fv) (ho : GE X E o fo) (hi : GE X E i fi) (hs : swapsWithSole [.Subscript o i tpos] v pos.line X.env = pure false) (hw : swappedStores [.Subscript o i tpos] v X.env = pure none)
    (h1 : (assignEach [.Subscript o i tpos] X.env).map (·.2) = [assign (.Subscript o i tpos) X.env])
    (ha : ∀ v, assign (.Subscript o i tpos) X.env v = (do
      let ov ← holding [v] (eval o X.env)
      let iv ← holding [v, ov] (eval i X.env)
      standAt tpos
      holding [v, ov, iv] (setItem ov iv v)
      release [v, ov, iv] [])) : GS X E (.Assign [.Subscript o i tpos] v pos) (sSetI fo fi fv) := gs_setI hv ho hi hs hw h1 fun h1 h2 => pg_sub h1 h2 set_list ha

section
variable (ho : GE X E o fo) (hl : GL X E (e :: es) l)
include ho hl
theorem gm_append (hbase : attributeBase o "append" X.env (eval o X.env) = eval o X.env)
    (hfew : ((backTo pos (starEach (e :: es) X.env)).all (fun x => !x.1) && (backToKw pos (keywordEach [] X.env)).all (fun x => x.1.isSome) && decide ((e :: es).length + ([] : List Keyword).length + (if ([] : List Keyword).isEmpty then 0 else 1) < 30)) = true)
    (hline : (apos.endLine == pos.line) = true) (hs : starEach (e :: es) X.env = (false, eval e X.env) :: starEach es X.env) (hplain : (backTo pos (starEach es X.env)).any (·.1) = false) :
    GE X E (.Call (.Attribute o "append" apos) (e :: es) [] pos) (sMeth mAppend fo l) :=
  ge_meth ho hl (fun h1 h2 => pe_bm F.plainAttrs_list F.slot_list_append F.type_list_append mt_append h1 h2 (hbase := hbase) (hfew := hfew) (hline := hline) (hs := hs) (hplain := hplain)) fun W Z φ M H avs vs R ra => append_ok W Z φ M H avs vs R ra
theorem gm_extend (hbase : attributeBase o "extend" X.env (eval o X.env) = eval o X.env)
    (hfew : ((backTo pos (starEach (e :: es) X.env)).all (fun x => !x.1) && (backToKw pos (keywordEach [] X.env)).all (fun x => x.1.isSome) && decide ((e :: es).length + ([] : List Keyword).length + (if ([] : List Keyword).isEmpty then 0 else 1) < 30)) = true)
    (hline : (apos.endLine == pos.line) = true) (hs : starEach (e :: es) X.env = (false, eval e X.env) :: starEach es X.env) (hplain : (backTo pos (starEach es X.env)).any (·.1) = false) :
    GE X E (.Call (.Attribute o "extend" apos) (e :: es) [] pos) (sMeth mExtend fo l) :=
  ge_meth ho hl (fun h1 h2 => pe_bm F.plainAttrs_list F.slot_list_extend F.type_list_extend mt_extend h1 h2 (hbase := hbase) (hfew := hfew) (hline := hline) (hs := hs) (hplain := hplain)) fun W Z φ M H avs vs R ra => extend_ok W Z φ M H avs vs R ra
end
end
end Mp

namespace Mp
open PySem L2 PySem.Spec PyProof.Rows
section
variable {X : Cx} {E : WX} {e : Expr} {es : List Expr} {f : SE} {l : SL} {pos : Pos}
/-- the name in the slot i -/
theorem gv (i : Nat) {x : Str} (hN : X.N[i]? = some x := by rfl) (hv : Vis X.env.scope x := by first | exact Or.inl rfl | exact Or.inr (Or.inl rfl) | exact Or.inr (Or.inr rfl)) (hd : (x == ("__debug__" : Str)) = false := by decide)
    (hcd : (x == ("__classdict__" : Str)) = false := by decide) : GE X E (.Name x pos) (sVar i) := ge_var hN hv hd hcd
theorem gl_one (he : GE X E e f) (hs : starEach [e] X.env = (false, eval e X.env) :: starEach [] X.env := by rfl) : GL X E [e] (sCons f sNil) := gl_cons hs he gl_nil
theorem gl_more (he : GE X E e f) (hl : GL X E es l) (hs : starEach (e :: es) X.env = (false, eval e X.env) :: starEach es X.env := by rfl) : GL X E (e :: es) (sCons f l) := gl_cons hs he hl
theorem sl_nil : ∀ (env : Env) (M : Mem) (avs : List AV) (M' : Mem), sNil env M = .ok avs M' → avs.length = 0 := fun env M avs M' h => by cases h; rfl
theorem sl_cons {n : Nat} (h : ∀ (env : Env) (M : Mem) (avs : List AV) (M' : Mem), l env M = .ok avs M' → avs.length = n) : ∀ (env : Env) (M : Mem) (avs : List AV) (M' : Mem), sCons f l env M = .ok avs M' → avs.length = n + 1 := fun env M avs M' e => by
  unfold sCons at e
  cases e1 : f env M with
  | bad => rw [e1] at e; cases e
  | exc _ _ => rw [e1] at e; cases e
  | ok x M1 =>
    rw [e1, Out.bind_ok] at e
    cases e2 : l env M1 with
    | bad => rw [e2] at e; cases e
    | exc _ _ => rw [e2] at e; cases e
    | ok xs M2 =>
      rw [e2, Out.bind_ok] at e
      have z := h _ _ _ _ e2
      cases e
      simp [z]
theorem takesW {X : Cx} : Takes X FW := L2.takes0
/-- an own class that an except clause names -/
theorem names_own {x : Str} {C : Addr} (hg : Gl X x) (hm : X.mg x = some (.ref C)) (hd : (x == ("__debug__" : Str)) = false) : Names X x (.ref C) := ⟨hg, hd, .inl hm⟩
theorem exm_of {K : PySem.W.Frag} {C D : Addr} {b : Bool} (h1 : PySem.W.subIn K (.ref D) (.type "BaseException") = some true) (h2 : PySem.W.isClsIn K D = true) (h3 : PySem.W.typeIn K (.ref D) = some (.type "type")) (h4 : PySem.W.subIn K (.ref C) (.ref D) = some b) :
    PySem.W.exmOne K (.ref C) (.ref D) = some b := by
  have e1 : (PySem.W.subIn K (.ref D) (.type "BaseException") == some true) = true := by rw [h1] <;> rfl
  have e2 : ((PySem.W.clsIn K D).isSome && PySem.W.typeIn K (.ref D) == some (.type "type")) = true := by
    have h2' : (PySem.W.clsIn K D).isSome = true := h2
    rw [h2', h3] <;> rfl
  show (if (PySem.W.subIn K (.ref D) (.type "BaseException") == some true) = true then (if ((PySem.W.clsIn K D).isSome && PySem.W.typeIn K (.ref D) == some (.type "type")) = true then PySem.W.subIn K (.ref C) (.ref D) else none) else none) = some b
  rw [if_pos e1, if_pos e2]
  exact h4
/-- which class is which: the two own ones -/
def ctE : Str → Str → Option Bool := fun e h =>
  if e = "Malformed" then (if h = "Malformed" then some true else if h = "Refused" then some false else none)
  else if e = "Refused" then (if h = "Malformed" then some false else if h = "Refused" then some true else none)
  else none
structure Errs (P : Program) (K : PySem.W.Frag) (mg : Str → Option Value) (CM CR fR : Addr) : Prop where
  ref : PySem.RefX.RefTxt P K mg "Refused" CR fR
  gM : mg "Malformed" = some (.ref CM)
  xM : PySem.W.excIn K CM [.type "ValueError", .type "Exception", .type "BaseException", .type "object"] "ValueError.__new__" = true
  kM : PySem.W.keepIn K (.ref CM) = true
  bM : PySem.W.subIn K (.ref CM) (.type "BaseException") = some true
  tM : PySem.W.typeIn K (.ref CM) = some (.type "type")
  iM : PySem.W.isClsIn K CM = true
  iR : PySem.W.isClsIn K CR = true
  sMM : PySem.W.subIn K (.ref CM) (.ref CM) = some true
  sMR : PySem.W.subIn K (.ref CM) (.ref CR) = some false
  sRM : PySem.W.subIn K (.ref CR) (.ref CM) = some false
  sRR : PySem.W.subIn K (.ref CR) (.ref CR) = some true
  fld : XfC K CR
section
variable {CM CR fR : Addr} {j k : Nat} {m : Str} {p p2 pos2 : Pos}
theorem Errs.ctM (T : Errs X.prog X.K X.mg CM CR fR) : CtOk X ctE "Malformed" (.ref CM) := fun ec b h C hC => by
  unfold ctE at h
  split at h
  · rename_i e
    subst e
    rw [if_pos rfl] at h
    cases h
    have := T.gM.symm.trans hC
    cases this
    exact exm_of T.bM T.iM T.tM T.sMM
  · split at h
    · rename_i e
      subst e
      rw [if_pos rfl] at h
      cases h
      have := T.ref.gC.symm.trans hC
      cases this
      exact exm_of T.bM T.iM T.tM T.sRM
    · cases h
theorem Errs.ctR (T : Errs X.prog X.K X.mg CM CR fR) : CtOk X ctE "Refused" (.ref CR) := fun ec b h C hC => by
  have n : ¬ ("Refused" : Str) = "Malformed" := by decide
  unfold ctE at h
  split at h
  · rename_i e
    subst e
    rw [if_pos rfl] at h
    cases h
    have := T.gM.symm.trans hC
    cases this
    exact exm_of T.ref.exC T.iR T.ref.tyC T.sMR
  · split at h
    · rename_i e
      subst e
      rw [if_pos rfl] at h
      cases h
      have := T.ref.gC.symm.trans hC
      cases this
      exact exm_of T.ref.exC T.iR T.ref.tyC T.sRR
    · cases h
theorem gs_rM (T : Errs X.prog X.K X.mg CM CR fR) (hc : X.calm = true) (tk : Takes X E) (hg : Gl X "Malformed") : GS X E (.Raise (some (.Call (.Name "Malformed" p) [.Constant (.str m) j p2] [] pos)) none pos2) (sRaise "Malformed" []) :=
  gs_raiseM hc tk T.xM T.gM T.kM (raises_own T.bM T.tM) hg (by decide)
theorem gs_rR (T : Errs X.prog X.K X.mg CM CR fR) (hc : X.calm = true) (tk : Takes X E) (hr : Room k X.A) (hg : Gl X "Refused") : GS X E (.Raise (some (.Call (.Name "Refused" p) [.Constant (.str m) j p2] [] pos)) none pos2) (sRaise "Refused" [("reason", .str m)]) :=
  gs_raiseR hc tk T.ref hr hg (by decide) rfl
/-! ### the suites -/
theorem gsu {Y G : _} {oi : Option Nat} {a : Addr} {cls : Value} {d : Option Addr} {g : SX} {e : Expr} {pos : Pos} (h : GX Y G oi a cls d e g) : PSs Y [.Return (some e) pos] (tRet (rdX G oi a cls d g)) := pss_one (ps_ret h)
theorem gx_int {Y G : _} {oi : Option Nat} {a : Addr} {cls : Value} {d : Option Addr} {n : Int} {j : Nat} : GX Y G oi a cls d (.Constant (.int n) j pos) (fun _ => some (.int n)) := gx_con pe_int fun _ _ => .int n
theorem gx_bl {Y G : _} {oi : Option Nat} {a : Addr} {cls : Value} {d : Option Addr} {n : Bool} {j : Nat} : GX Y G oi a cls d (.Constant (.bool n) j pos) (fun _ => some (.bl n)) := gx_con pe_bl fun _ _ => .bl n
theorem gx_str {Y G : _} {oi : Option Nat} {a : Addr} {cls : Value} {d : Option Addr} {n : Str} {j : Nat} : GX Y G oi a cls d (.Constant (.str n) j pos) (fun _ => some (.str n)) := gx_con pe_str fun _ _ => .str n
theorem gx_non {Y G : _} {oi : Option Nat} {a : Addr} {cls : Value} {d : Option Addr} {j : Nat} : GX Y G oi a cls d (.Constant .none j pos) (fun _ => some .non) := gx_con pe_non fun _ _ => .non
/-- a tuple of two -/
def xTup2 (f g : SX) : SX := fun ex => match f ex, g ex with
  | some x, some y => some (.tup [x, y])
  | _, _ => none
theorem gx_tup2 {Y : Cx} {G : Gm} {oi : Option Nat} {a : Addr} {cls : Value} {d : Option Addr} {e1 e2 : Expr} {f g : SX} {k : Nat} (h1 : GX Y G oi a cls d e1 f) (h2 : GX Y G oi a cls d e2 g) (s1 : starEach [e1, e2] Y.env = (false, eval e1 Y.env) :: starEach [e2] Y.env) (s2 : starEach [e2] Y.env = (false, eval e2 Y.env) :: starEach [] Y.env) :
    GX Y G oi a cls d (.Tuple [e1, e2] k pos) (xTup2 f g) := by
  have h := gx_tup (k := k) (pos := pos) (gx_cons h1 (gx_cons h2 gx_nil s2) s1) (by simp) (fun ex xs h => by
    cases e1 : f ex with
    | none => rw [e1] at h; cases h
    | some x =>
      cases e2 : g ex with
      | none => rw [e1, e2] at h; cases h
      | some y => rw [e1, e2] at h; cases h; rfl)
  have e : (fun ex => Option.map D.tup (match f ex, (match g ex, (some [] : Option (List D)) with | some x, some xs => some (x :: xs) | _, _ => none) with | some x, some xs => some (x :: xs) | _, _ => none)) = xTup2 f g := by
    funext ex
    unfold xTup2
    cases f ex with
    | none => rfl
    | some x => cases g ex <;> rfl
  rw [← e]
  exact h
def xFld (nC f : Str) : SX := fun ex => if ex.cls = nC then ex.fs.lookup f else none
theorem gx_reason (T : Errs X.prog X.K X.mg CM CR fR) {i : Nat} {a : Addr} {oe : Obj} {cls : Value} {d : Option Addr} {pn : List (Addr × Obj)} {n : Str} (hz : Zc cls d oe) (hf : ∃ vs, oe.data = .fields vs) (hN : X.N[i]? = some n) (hv : Vis X.env.scope n) (hd : (n == ("__debug__" : Str)) = false) (hcd : (n == ("__classdict__" : Str)) = false)
    (hb : attributeBase (.Name n p) "reason" X.env (eval (.Name n p) X.env) = eval (.Name n p) X.env) :
    GX (X.suite a ((a, oe) :: pn)) (gm X) (some i) a cls d (.Attribute (.Name n p) "reason" pos) (xFld "Refused" "reason") := gx_fld T.fld T.ref.noN T.ref.gC hz hf hN hv hd hcd hb
end
end

theorem tg_len0 : ∀ (ds : List D) (env env' : Env), Tg.nil.bind (.tup ds) env = some env' → ds.length = 0 := fun ds env env' h => by
  cases ds with
  | nil => rfl
  | cons _ _ => cases h
theorem tg_lenS {t u : Tg} {n : Nat} (k : ∀ (ds : List D) (env env' : Env), u.bind (.tup ds) env = some env' → ds.length = n) : ∀ (ds : List D) (env env' : Env), (Tg.cons t u).bind (.tup ds) env = some env' → ds.length = n + 1 := fun ds env env' h => by
  cases ds with
  | nil => cases h
  | cons d ds =>
    unfold Tg.bind at h
    split at h
    · rename_i e; rw [List.length_cons, k _ _ _ h]
    · cases h
end Mp

namespace Mp
open PySem

/-! ## stepping through a body, in plain Lean -/
def el {α β : Type} (r : Out α) (k : α → Mem → Out β) (kx : Exc → Mem → Out β) : Out β := match r with
  | .ok a M => k a M
  | .exc e M => kx e M
  | .bad => .bad
theorem el_bind {α β γ : Type} (r : Out α) (g : α → Mem → Out β) (k : β → Mem → Out γ) (kx : Exc → Mem → Out γ) : el (r.bind g) k kx = el r (fun a M => el (g a M) k kx) kx := by cases r <;> rfl
def optK {α β : Type} (o : Option α) (k : α → Out β) : Out β := match o with
  | some a => k a
  | none => .bad
def flK {β : Type} (fl : Fl) (M : Mem) (kn : Env → Mem → Out β) (k : Fl → Mem → Out β) : Out β := match fl with
  | .next e => kn e M
  | .ret v => k (.ret v) M
  | .brk e => k (.brk e) M
  | .cont e => k (.cont e) M
def endK (n : Nat) (fl : Fl) (M : Mem) : Out AV := match fl with
  | .ret av => finRet n av M
  | .next _ => .ok (.d .non) (M.take n)
  | _ => .bad
def stK {β : Type} (x : AV) (k : AV → Out β) : Out β := k x.settle
def tupK {β : Type} (avs : List AV) (M : Mem) (c : List D → AV) (k : AV → Mem → Out β) : Out β := match keepDs avs M with
  | some (xs, M2) => if xs.length ≤ sizeLine then k (c xs) M2 else .bad
  | none => .bad
theorem el_id {α : Type} (r : Out α) : el r (fun a M => .ok a M) (fun e M => .exc e M) = r := by cases r <;> rfl
section
variable {β : Type} {kx : Exc → Mem → Out β} {res : Out β} {env : Env} {M : Mem}
section
variable {α : Type} {k : α → Mem → Out β}
theorem e_ok {a : α} (h : k a M = res) : el (.ok a M) k kx = res := h
theorem e_exc {e : Exc} (h : kx e M = res) : el (.exc e M : Out α) k kx = res := h
theorem e_eq {r r' : Out α} (e : r = r') (h : el r' k kx = res) : el r k kx = res := by rw [e]; exact h
theorem e_guard {b : Bool} {r : Out α} (e : b = true) (h : el r k kx = res) : el (guard b r) k kx = res := by unfold guard; rw [if_pos e]; exact h
theorem e_if {p : Prop} [Decidable p] {r r' : Out α} (h1 : p → el r k kx = res) (h2 : ¬ p → el r' k kx = res) : el (if p then r else r') k kx = res := by
  split
  · exact h1 (by assumption)
  · exact h2 (by assumption)
end
/-! ### defs -/
theorem e_fn {np n : Nat} {b : SS} {avs : List AV} {r : Out AV} (hl : avs.length = np)
    (h : el (b (initEnv n avs) M) (fun fl M' => endK M.length fl M') (fun e M' => .exc e (M'.take M.length)) = r) : fnRun np n b avs M = r := by
  unfold fnRun
  rw [if_pos hl, ← h]
  cases b (initEnv n avs) M with
  | ok fl M' => cases fl <;> rfl
  | exc e M' => rfl
  | bad => rfl
/-! ### statements -/
section
variable {k : Fl → Mem → Out β} {f g : SE} {s t : SS} {c : SB}
theorem e_skip (h : k (.next env) M = res) : el (sSkip env M) k kx = res := h
theorem e_seq (h : el (s env M) (fun fl M1 => flK fl M1 (fun e M2 => el (t e M2) k kx) k) kx = res) : el (sSeq2 s t env M) k kx = res := by
  rw [← h]
  unfold sSeq2
  rw [el_bind]
  congr
  funext fl M1
  cases fl <;> rfl
theorem e_ret (h : el (f env M) (fun x M1 => k (.ret x) M1) kx = res) : el (sRet f env M) k kx = res := by rw [← h]; exact el_bind _ _ _ _
theorem e_retN (h : k (.ret (.d .non)) M = res) : el (sRetN env M) k kx = res := h
theorem e_expr (h : el (f env M) (fun _ M1 => k (.next env) M1) kx = res) : el (sExpr f env M) k kx = res := by rw [← h]; exact el_bind _ _ _ _
theorem e_brk (h : k (.brk env) M = res) : el (sBrk env M) k kx = res := h
theorem e_cont (h : k (.cont env) M = res) : el (sCont env M) k kx = res := h
theorem e_raise {x : Str} {fs : List (Str × D)} (h : kx ⟨x, fs⟩ M = res) : el (sRaise x fs env M) k kx = res := h
theorem e_ifS (h : el (c env M) (fun b M1 => cond b (el (s env M1) k kx) (el (t env M1) k kx)) kx = res) : el (sIfS c s t env M) k kx = res := by
  rw [← h]
  unfold sIfS
  rw [el_bind]
  congr
  funext b M1
  cases b <;> rfl
theorem e_cond {b : Bool} {r r' : Out β} (h1 : b = true → r = res) (h2 : b = false → r' = res) : cond b r r' = res := by cases b with
  | true => exact h1 rfl
  | false => exact h2 rfl
theorem e_condT {r r' : Out β} (h : r = res) : cond true r r' = res := h
theorem e_condF {r r' : Out β} (h : r' = res) : cond false r r' = res := h
theorem e_condP {p : Prop} [Decidable p] {r r' : Out β} (h1 : p → r = res) (h2 : ¬ p → r' = res) : cond (decide p) r r' = res := by
  by_cases h : p
  · rw [decide_eq_true h]; exact h1 h
  · rw [decide_eq_false h]; exact h2 h
theorem e_condPT {p : Prop} [Decidable p] {r r' : Out β} (h : p) (h1 : r = res) : cond (decide p) r r' = res := by rw [decide_eq_true h]; exact h1
theorem e_condPF {p : Prop} [Decidable p] {r r' : Out β} (h : ¬ p) (h1 : r' = res) : cond (decide p) r r' = res := by rw [decide_eq_false h]; exact h1
theorem e_condNT {p : Prop} [Decidable p] {r r' : Out β} (h : ¬ p) (h1 : r = res) : cond (!decide p) r r' = res := by rw [decide_eq_false h]; exact h1
theorem e_condNF {p : Prop} [Decidable p] {r r' : Out β} (h : p) (h1 : r' = res) : cond (!decide p) r r' = res := by rw [decide_eq_true h]; exact h1
theorem e_condTe {b : Bool} {r r' : Out β} (h : b = true) (h1 : r = res) : cond b r r' = res := by rw [h]; exact h1
theorem e_condFe {b : Bool} {r r' : Out β} (h : b = false) (h1 : r' = res) : cond b r r' = res := by rw [h]; exact h1
theorem e_condN {p : Prop} [Decidable p] {r r' : Out β} (h1 : ¬ p → r = res) (h2 : p → r' = res) : cond (!decide p) r r' = res := by
  by_cases h : p
  · rw [decide_eq_true h]; exact h2 h
  · rw [decide_eq_false h]; exact h1 h
/-- a value stored -/
def asgK (i : Nat) (m : Bool) (x : AV) (env : Env) (M : Mem) (k : Fl → Mem → Out β) : Out β := k (.next (asgAV i m x env M).1) (asgAV i m x env M).2
theorem e_asg {i : Nat} {m : Bool} (h : el (f env M) (fun x M1 => asgK i m x env M1 k) kx = res) : el (sAsg i m f env M) k kx = res := by rw [← h]; exact el_bind _ _ _ _
theorem a_d {i : Nat} {m : Bool} {x : D} (h : k (.next (env.set i (some (.d x)))) M = res) : asgK i m (.d x) env M k = res := by cases m <;> exact h
theorem a_c {i : Nat} {m : Bool} {c : Nat} (h : k (.next (env.set i (some (.cell c)))) M = res) : asgK i m (.cell c) env M k = res := by cases m <;> exact h
theorem a_f {i : Nat} {xs : List D} (h : k (.next (env.set i (some (.d (.lst xs))))) M = res) : asgK i false (.fr xs) env M k = res := h
theorem a_m {i : Nat} {xs : List D} (h : k (.next (env.set i (some (.cell M.length)))) (M ++ [some (.l xs)]) = res) : asgK i true (.fr xs) env M k = res := h
def asgP (i : Nat) (m : Bool) (x : AV) (env : Env) (M : Mem) (k : Env → Mem → Out β) : Out β := k (asgAV i m x env M).1 (asgAV i m x env M).2
theorem ap_d {k : Env → Mem → Out β} {i : Nat} {m : Bool} {x : D} (h : k (env.set i (some (.d x))) M = res) : asgP i m (.d x) env M k = res := by cases m <;> exact h
theorem ap_c {k : Env → Mem → Out β} {i : Nat} {m : Bool} {c : Nat} (h : k (env.set i (some (.cell c))) M = res) : asgP i m (.cell c) env M k = res := by cases m <;> exact h
theorem ap_f {k : Env → Mem → Out β} {i : Nat} {xs : List D} (h : k (env.set i (some (.d (.lst xs)))) M = res) : asgP i false (.fr xs) env M k = res := h
theorem ap_m {k : Env → Mem → Out β} {i : Nat} {xs : List D} (h : k (env.set i (some (.cell M.length))) (M ++ [some (.l xs)]) = res) : asgP i true (.fr xs) env M k = res := h
theorem e_par2 {i j : Nat} {m n : Bool} (h : el (f env M) (fun x M1 => asgP i m x env M1 fun e1 M2 => el (g env M2) (fun y M3 => asgK j n y e1 M3 k) kx) kx = res) : el (sPar2 i j m n f g env M) k kx = res := by
  rw [← h]
  unfold sPar2
  rw [el_bind]
  congr
  funext x M1
  rw [el_bind]
  rfl
theorem e_par3 {h3 : SE} {i j l : Nat} {m n o : Bool} (h : el (f env M) (fun x M1 => asgP i m x env M1 fun e1 M2 => el (g env M2) (fun y M3 => asgP j n y e1 M3 fun e2 M4 => el (h3 env M4) (fun z M5 => asgK l o z e2 M5 k) kx) kx) kx = res) : el (sPar3 i j l m n o f g h3 env M) k kx = res := by
  rw [← h]
  unfold sPar3
  rw [el_bind]
  congr
  funext x M1
  rw [el_bind]
  show el (g env _) _ kx = el (g env _) _ kx
  congr
  funext y M2
  rw [el_bind]
  rfl
theorem k_next {fl : Env} {kn : Env → Mem → Out β} (h : kn fl M = res) : flK (.next fl) M kn k = res := h
theorem k_ret {v : AV} {kn : Env → Mem → Out β} (h : k (.ret v) M = res) : flK (.ret v) M kn k = res := h
theorem k_brk {v : Env} {kn : Env → Mem → Out β} (h : k (.brk v) M = res) : flK (.brk v) M kn k = res := h
theorem k_cont {v : Env} {kn : Env → Mem → Out β} (h : k (.cont v) M = res) : flK (.cont v) M kn k = res := h
def tgK (tg : Tg) (x : AV) (env : Env) (k : Env → Out β) : Out β := match x with
  | .d d => optK (tg.bind d env) k
  | _ => .bad
theorem e_asgT {tg : Tg} (h : el (f env M) (fun x M1 => tgK tg x env (fun e => k (.next e) M1)) kx = res) : el (sAsgT tg f env M) k kx = res := by
  rw [← h]
  unfold sAsgT
  rw [el_bind]
  congr
  funext x M1
  cases x with
  | d d =>
    show el (match tg.bind d env with | some e => .ok (.next e) M1 | none => .bad) k kx = optK (tg.bind d env) _
    cases tg.bind d env <;> rfl
  | _ => rfl
theorem g_d {tg : Tg} {d : D} {e : Env} {k : Env → Out β} (q : tg.bind d env = some e) (h : k e = res) : tgK tg (.d d) env k = res := by
  unfold tgK optK
  dsimp only
  rw [q]
  exact h
def hdK (o : Option (Option D)) (e : Exc) (M : Mem) (k : Fl → Mem → Out β) (kx : Exc → Mem → Out β) : Out β := match o with
  | none => .bad
  | some none => kx e M
  | some (some y) => k (.ret (.d y)) M
theorem e_tryS {ct : Str → Str → Option Bool} {hs : List (Str × SX)} (h : el (s env M) k (fun e M1 => hdK (hdRun ct e hs) e M1 k kx) = res) : el (sTry ct s hs env M) k kx = res := by
  rw [← h]
  unfold sTry
  cases s env M with
  | ok _ _ => rfl
  | bad => rfl
  | exc e M1 =>
    show el (match hdRun ct e hs with | none => .bad | some none => .exc e M1 | some (some y) => .ok (.ret (.d y)) M1) k kx = hdK (hdRun ct e hs) e M1 k kx
    cases hdRun ct e hs with
    | none => rfl
    | some o => cases o <;> rfl
theorem h_some {e : Exc} {y : D} {o : Option (Option D)} (q : o = some (some y)) (h : k (.ret (.d y)) M = res) : hdK o e M k kx = res := by rw [q]; exact h
end
/-! ### values -/
section
variable {k : AV → Mem → Out β} {f g : SE} {l : SL} {c : SB}
theorem e_var {i : Nat} {x : D} (e : env[i]? = some (some (.d x))) (h : k (.d x) M = res) : el (sVar i env M) k kx = res := by unfold sVar; rw [e]; exact h
theorem e_varC {i : Nat} {x : Nat} (e : env[i]? = some (some (.cell x))) (h : k (.cell x) M = res) : el (sVar i env M) k kx = res := by unfold sVar; rw [e]; exact h
theorem e_varS {i : Nat} {x : List Int} (e : env[i]? = some (some (.scr x))) (h : k (.scr x) M = res) : el (sVar i env M) k kx = res := by unfold sVar; rw [e]; exact h
theorem e_con {d : D} (h : k (.d d) M = res) : el (sCon d env M) k kx = res := h
theorem e_bin {op : Operator} (h : el (f env M) (fun x M1 => el (g env M1) (fun y M2 => el (binop op (opnd M2 x) (opnd M2 y) M2) k kx) kx) kx = res) : el (sBin op f g env M) k kx = res := by
  rw [← h]
  unfold sBin sTwo
  rw [el_bind]
  congr
  funext x M1
  rw [el_bind]
theorem e_cmp {op : CmpOp} (h : el (f env M) (fun x M1 => el (g env M1) (fun y M2 => el (cmpop op x y M2) k kx) kx) kx = res) : el (sCmp op f g env M) k kx = res := by
  rw [← h]
  unfold sCmp sTwo
  rw [el_bind]
  congr
  funext x M1
  rw [el_bind]
theorem e_idx (h : el (f env M) (fun x M1 => el (g env M1) (fun y M2 => el (idx x y M2) k kx) kx) kx = res) : el (sIdx f g env M) k kx = res := by
  rw [← h]
  unfold sIdx sTwo
  rw [el_bind]
  congr
  funext x M1
  rw [el_bind]
theorem e_neg (h : el (f env M) (fun x M1 => el (negOp x M1) k kx) kx = res) : el (sNeg f env M) k kx = res := by rw [← h]; exact el_bind _ _ _ _
theorem e_isi {us : List String} (h : el (f env M) (fun x M1 => el (isiOp us x M1) k kx) kx = res) : el (sIsi us f env M) k kx = res := by rw [← h]; exact el_bind _ _ _ _
theorem e_args {F : List AV → Mem → Out AV} (h : el (l env M) (fun avs M1 => el (F avs M1) k kx) kx = res) : el (sArgs F l env M) k kx = res := by rw [← h]; exact el_bind _ _ _ _
theorem e_tup (h : el (l env M) (fun avs M1 => tupK avs M1 (fun xs => .d (.tup xs)) k) kx = res) : el (sTup l env M) k kx = res := by
  rw [← h]
  unfold sTup
  rw [el_bind]
  congr
  funext avs M1
  unfold tupK
  cases keepDs avs M1 with
  | none => rfl
  | some p =>
    obtain ⟨xs, M2⟩ := p
    dsimp only
    unfold guard
    by_cases hl : xs.length ≤ sizeLine
    · rw [if_pos (decide_eq_true hl), if_pos hl]; rfl
    · rw [if_neg (by simpa using hl), if_neg hl]; rfl
theorem e_lst (h : el (l env M) (fun avs M1 => tupK avs M1 .fr k) kx = res) : el (sLst l env M) k kx = res := by
  rw [← h]
  unfold sLst
  rw [el_bind]
  congr
  funext avs M1
  unfold tupK
  cases keepDs avs M1 with
  | none => rfl
  | some p =>
    obtain ⟨xs, M2⟩ := p
    dsimp only
    unfold guard
    by_cases hl : xs.length ≤ sizeLine
    · rw [if_pos (decide_eq_true hl), if_pos hl]; rfl
    · rw [if_neg (by simpa using hl), if_neg hl]; rfl
theorem e_iff (h : el (c env M) (fun b M1 => cond b (el (f env M1) k kx) (el (g env M1) k kx)) kx = res) : el (sIf c f g env M) k kx = res := by
  rw [← h]
  unfold sIf
  rw [el_bind]
  congr
  funext b M1
  cases b <;> rfl
theorem e_and (h : el (f env M) (fun x M1 => optK (bool? x) fun b => cond b (el (g env M1) k kx) (k (.d (.bl false)) M1)) kx = res) : el (sAnd f g env M) k kx = res := by
  rw [← h]
  unfold sAnd
  rw [el_bind]
  congr
  funext x M1
  cases bool? x with
  | none => rfl
  | some b => cases b <;> rfl
theorem e_or (h : el (f env M) (fun x M1 => optK (bool? x) fun b => cond b (k (.d (.bl true)) M1) (el (g env M1) k kx)) kx = res) : el (sOr f g env M) k kx = res := by
  rw [← h]
  unfold sOr
  rw [el_bind]
  congr
  funext x M1
  cases bool? x with
  | none => rfl
  | some b => cases b <;> rfl
theorem e_not (h : el (f env M) (fun x M1 => optK (bool? x) fun b => k (.d (.bl (!b))) M1) kx = res) : el (sNot f env M) k kx = res := by
  rw [← h]
  unfold sNot
  rw [el_bind]
  congr
  funext x M1
  cases bool? x <;> rfl
theorem e_chain {op op' : CmpOp} {h' : SE} (h : el (f env M) (fun x M1 => el (g env M1) (fun y M2 => optK (cmpv op M2 x y) fun b => cond b (el (h' env M2) (fun z M3 => el (cmpop op' y z M3) k kx) kx) (k (.d (.bl false)) M2)) kx) kx = res) : el (sChain op op' f g h' env M) k kx = res := by
  rw [← h]
  unfold sChain
  rw [el_bind]
  congr
  funext x M1
  rw [el_bind]
  congr
  funext y M2
  cases cmpv op M2 x y with
  | none => rfl
  | some b =>
    cases b
    · rfl
    · exact el_bind _ _ _ _
theorem t_k {avs : List AV} {c : List D → AV} {xs : List D} {M2 : Mem} (e : keepDs avs M = some (xs, M2)) (hl0 : xs.length < 1000000) (h : k (c xs) M2 = res) : tupK avs M c k = res := by
  have hl : xs.length ≤ sizeLine := Nat.le_of_lt (Nat.lt_of_lt_of_le hl0 (by decide))
  unfold tupK
  rw [e]
  dsimp only
  rw [if_pos hl]
  exact h
/-! primitives -/
theorem e_call {F : List AV → Mem → Out AV} {avs : List AV} {v : AV} {M2 : Mem} (e : F avs M = .ok v M2) (h : k v M2 = res) : el (F avs M) k kx = res := by rw [e]; exact h
theorem e_callX {F : List AV → Mem → Out AV} {avs : List AV} {v : Exc} {M2 : Mem} (e : F avs M = .exc v M2) (h : kx v M2 = res) : el (F avs M) k kx = res := by rw [e]; exact h
theorem p_int {i : Int} (h : k (.d (.int i)) M = res) : el (intOp [.d (.int i)] M) k kx = res := h
theorem p_abs {i : Int} (h : k (.d (.int i.natAbs)) M = res) : el (absOp [.d (.int i)] M) k kx = res := h
theorem p_max {i j : Int} (h : k (.d (.int (max i j))) M = res) : el (maxOp [.d (.int i), .d (.int j)] M) k kx = res := h
theorem p_min {i j : Int} (h : k (.d (.int (min i j))) M = res) : el (minOp [.d (.int i), .d (.int j)] M) k kx = res := h
theorem p_all {avs : List AV} {v : AV} {M2 : Mem} (e : allOp avs M = .ok v M2) (h : k v M2 = res) : el (allOp avs M) k kx = res := e_call e h
theorem p_any {avs : List AV} {v : AV} {M2 : Mem} (e : anyOp avs M = .ok v M2) (h : k v M2 = res) : el (anyOp avs M) k kx = res := e_call e h
theorem p_idx {x y v : AV} {M2 : Mem} (e : idx x y M = .ok v M2) (h : k v M2 = res) : el (idx x y M) k kx = res := by rw [e]; exact h
theorem p_bin {op : Operator} {x y v : AV} {M2 : Mem} (e : binop op x y M = .ok v M2) (h : k v M2 = res) : el (binop op x y M) k kx = res := by rw [e]; exact h
theorem p_isi {us : List String} {x : AV} {t : String} {b : Bool} (e : tyName M x = some t) (eb : us.any (isi1 t) = b) (h : k (.d (.bl b)) M = res) : el (isiOp us x M) k kx = res := by
  unfold isiOp
  rw [e]
  dsimp only
  rw [eb]
  exact h
/-! ### walks -/
section
variable {fi : SI} {c : SB}
theorem e_comp {tg : Tg} {vs : List Nat} (h : el (fi env M) (fun itm M1 => el (compL f c tg vs itm.deps env itm.items [] M1) k kx) kx = res) : el (sComp fi tg c f vs env M) k kx = res := by rw [← h]; exact el_bind _ _ _ _
theorem c_nil {tg : Tg} {vs : List Nat} {items acc : List D} (e : items = []) (h : k (.fr acc) M = res) : el (compL f c tg vs [] env items acc M) k kx = res := by subst e; exact h
def cpK (av : AV) (M : Mem) (acc : List D) (q : List D → Mem → Out β) : Out β := match keepD av M with
  | some (x, M3) => if acc.length < sizeLine then q (acc ++ [x]) M3 else .bad
  | none => .bad
theorem c_d {x : D} {acc : List D} {q : List D → Mem → Out β} (hl0 : acc.length < 1000000) (h : q (acc ++ [x]) M = res) : cpK (.d x) M acc q = res := by
  have hl : acc.length < sizeLine := Nat.lt_of_lt_of_le hl0 (by decide)
  unfold cpK keepD
  dsimp only
  rw [if_pos hl]
  exact h
theorem c_cons {tg : Tg} {vs : List Nat} {items acc r : List D} {d : D} {env' : Env} (e : items = d :: r) (eb : tg.bind d (wipeE env vs) = some env')
    (h : el (c env' M) (fun b M1 => cond b (el (f env' M1) (fun av M2 => cpK av M2 acc fun acc' M3 => el (compL f c tg vs [] env r acc' M3) k kx) fun _ _ => .bad) (el (compL f c tg vs [] env r acc M1) k kx)) (fun _ _ => .bad) = res) : el (compL f c tg vs [] env items acc M) k kx = res := by
  subst e
  rw [← h]
  have e1 : compL f c tg vs [] env (d :: r) acc M = match c env' M with
        | .ok true M1 => match f env' M1 with
          | .ok av M2 => match keepD av M2 with
            | some (x, M3) => if acc.length < sizeLine then compL f c tg vs [] env r (acc ++ [x]) M3 else .bad
            | none => .bad
          | _ => .bad
        | .ok false M1 => compL f c tg vs [] env r acc M1
        | _ => .bad := by
    rw [compL, if_pos (by rfl), eb] <;> rfl
  rw [e1]
  cases c env' M with
  | bad => rfl
  | exc _ _ => rfl
  | ok b M1 =>
    cases b with
    | false => rfl
    | true =>
      show el (match f env' M1 with
          | .ok av M2 => match keepD av M2 with
            | some (x, M3) => if acc.length < sizeLine then compL f c tg vs [] env r (acc ++ [x]) M3 else .bad
            | none => .bad
          | _ => .bad) k kx = el (f env' M1) _ _
      cases f env' M1 with
      | bad => rfl
      | exc _ _ => rfl
      | ok av M2 =>
        show el (match keepD av M2 with
            | some (x, M3) => if acc.length < sizeLine then compL f c tg vs [] env r (acc ++ [x]) M3 else .bad
            | none => .bad) k kx = cpK av M2 acc (fun acc' M3 => el (compL f c tg vs [] env r acc' M3) k kx)
        unfold cpK
        cases keepD av M2 with
        | none => rfl
        | some p =>
          dsimp only
          split <;> rfl
theorem p_isiT {us : List String} {x : AV} {t : String} (e : tyName M x = some t) (eb : us.any (isi1 t) = true) (h : k (.d (.bl true)) M = res) : el (isiOp us x M) k kx = res := p_isi e eb h
theorem p_isiF {us : List String} {x : AV} {t : String} (e : tyName M x = some t) (eb : us.any (isi1 t) = false) (h : k (.d (.bl false)) M = res) : el (isiOp us x M) k kx = res := p_isi e eb h
theorem p_lenT {xs : List D} (h : k (.d (.int xs.length)) M = res) : el (lenOp [.d (.tup xs)] M) k kx = res := h
theorem p_lenL {xs : List D} (h : k (.d (.int xs.length)) M = res) : el (lenOp [.d (.lst xs)] M) k kx = res := h
theorem p_add {i j : Int} (h : k (.d (.int (i + j))) M = res) : el (binop .Add (opnd M (.d (.int i))) (opnd M (.d (.int j))) M) k kx = res := h
theorem p_sub {i j : Int} (h : k (.d (.int (i - j))) M = res) : el (binop .Sub (opnd M (.d (.int i))) (opnd M (.d (.int j))) M) k kx = res := h
theorem p_mul {i j : Int} (e : mulOk i j = true) (h : k (.d (.int (i * j))) M = res) : el (binop .Mult (opnd M (.d (.int i))) (opnd M (.d (.int j))) M) k kx = res := e_guard (k := k) (kx := kx) (r := .ok (.d (.int (i * j))) M) e h
theorem p_div {i j : Int} (e0 : 0 < j) (e : divOk j = true) (h : k (.d (.int (i / j))) M = res) : el (binop .FloorDiv (opnd M (.d (.int i))) (opnd M (.d (.int j))) M) k kx = res := by
  show el (if 0 < j then guard (divOk j) (.ok (.d (.int (i / j))) M) else guard (decide (j ≠ 0) && divOk j) (.ok (.d (.int (i.fdiv j))) M)) k kx = res
  rw [if_pos e0]
  exact e_guard e h
theorem p_mod {i j : Int} (e0 : 0 < j) (h : k (.d (.int (i % j))) M = res) : el (binop .Mod (opnd M (.d (.int i))) (opnd M (.d (.int j))) M) k kx = res := by
  show el (if 0 < j then .ok (.d (.int (i % j))) M else guard (decide (j ≠ 0)) (.ok (.d (.int (i.fmod j))) M)) k kx = res
  rw [if_pos e0]
  exact h
theorem p_neg {i : Int} (h : k (.d (.int (-i))) M = res) : el (negOp (.d (.int i)) M) k kx = res := h
theorem p_lt {i j : Int} (h : k (.d (.bl (decide (i < j)))) M = res) : el (cmpop .Lt (.d (.int i)) (.d (.int j)) M) k kx = res := h
theorem p_le {i j : Int} (h : k (.d (.bl (decide (i ≤ j)))) M = res) : el (cmpop .LtE (.d (.int i)) (.d (.int j)) M) k kx = res := h
theorem p_gt {i j : Int} (h : k (.d (.bl (decide (j < i)))) M = res) : el (cmpop .Gt (.d (.int i)) (.d (.int j)) M) k kx = res := h
theorem p_ge {i j : Int} (h : k (.d (.bl (decide (j ≤ i)))) M = res) : el (cmpop .GtE (.d (.int i)) (.d (.int j)) M) k kx = res := h
theorem eqv_int (i j : Int) : PyData.eqv (.int i) (.int j) = decide (i = j) := by first | rfl | (simp [PyData.eqv]; done) | (by_cases h : i = j <;> simp [PyData.eqv, h])
theorem p_eq {a b : D} (ha : a.ok = true) (hb : b.ok = true) (h : k (.d (.bl (D.eqv a b))) M = res) : el (cmpop .Eq (.d a) (.d b) M) k kx = res := by
  have e : cmpop .Eq (.d a) (.d b) M = .ok (.d (.bl (D.eqv a b))) M := by
    unfold cmpop cmpv look
    dsimp only
    rw [ha, hb]
    rfl
  rw [e]
  exact h
theorem p_ne {a b : D} (ha : a.ok = true) (hb : b.ok = true) (h : k (.d (.bl (!D.eqv a b))) M = res) : el (cmpop .NotEq (.d a) (.d b) M) k kx = res := by
  have e : cmpop .NotEq (.d a) (.d b) M = .ok (.d (.bl (!D.eqv a b))) M := by
    unfold cmpop cmpv look
    dsimp only
    rw [ha, hb]
    rfl
  rw [e]
  exact h
theorem ok_str {x : Str} (h : (PyData.str x).canLay0 = true) : (D.str x).ok = true := by
  unfold D.ok SeqAt.shaped
  have e : (D.str x).py = .str x := rfl
  rw [e, h]
  rfl
theorem ok_int (i : Int) : (D.int i).ok = true := by rfl
theorem eqv_ii (i j : Int) : D.eqv (.int i) (.int j) = decide (i = j) := eqv_int i j
theorem p_eqI {i j : Int} (h : k (.d (.bl (decide (i = j)))) M = res) : el (cmpop .Eq (.d (.int i)) (.d (.int j)) M) k kx = res := p_eq (ok_int i) (ok_int j) (by rw [eqv_ii]; exact h)
theorem p_neI {i j : Int} (h : k (.d (.bl (!decide (i = j)))) M = res) : el (cmpop .NotEq (.d (.int i)) (.d (.int j)) M) k kx = res := p_ne (ok_int i) (ok_int j) (by rw [eqv_ii]; exact h)
theorem p_isN {x : AV} (h : k (.d (.bl (isNone x))) M = res) : el (cmpop .Is x (.d .non) M) k kx = res := h
theorem p_notN {x : AV} (h : k (.d (.bl (!isNone x))) M = res) : el (cmpop .IsNot x (.d .non) M) k kx = res := h
end
end
section
variable {k : Itm → Mem → Out β} {f : SE} {l : SL}
theorem i_seq (h : el (f env M) (fun x M1 => optK (seqItm M1 x) fun it => k it M1) kx = res) : el (sSeq f env M) k kx = res := by
  rw [← h]
  unfold sSeq
  rw [el_bind]
  congr
  funext x M1
  cases seqItm M1 x <;> rfl
theorem i_rng (h : el (l env M) (fun x M1 => optK (rngItm x) fun it => k it M1) kx = res) : el (sRng l env M) k kx = res := by
  rw [← h]
  unfold sRng
  rw [el_bind]
  congr
  funext x M1
  cases rngItm x <;> rfl
end
section
variable {k : Bool → Mem → Out β} {f : SE} {c d : SB}
theorem b_sB (h : el (f env M) (fun x M1 => optK (truth M1 x) fun b => k b M1) kx = res) : el (sB f env M) k kx = res := by
  rw [← h]
  unfold sB
  rw [el_bind]
  congr
  funext x M1
  cases truth M1 x <;> rfl
theorem b_and (h : el (c env M) (fun b M1 => cond b (el (d env M1) k kx) (k false M1)) kx = res) : el (sAndB c d env M) k kx = res := by
  rw [← h]
  unfold sAndB
  rw [el_bind]
  congr
  funext b M1
  cases b <;> rfl
theorem b_or (h : el (c env M) (fun b M1 => cond b (k true M1) (el (d env M1) k kx)) kx = res) : el (sOrB c d env M) k kx = res := by
  rw [← h]
  unfold sOrB
  rw [el_bind]
  congr
  funext b M1
  cases b <;> rfl
theorem b_not (h : el (c env M) (fun b M1 => k (!b) M1) kx = res) : el (sNotB c env M) k kx = res := by rw [← h]; exact el_bind _ _ _ _
theorem b_yes (h : k true M = res) : el (sYes env M) k kx = res := h
end
theorem o_eq {α : Type} {o : Option α} {a : α} {k : α → Out β} (e : o = some a) (h : k a = res) : optK o k = res := by rw [e]; exact h
theorem o_bl {b : Bool} {k : Bool → Out β} (h : k b = res) : optK (truth M (.d (.bl b))) k = res := h
theorem o_int {i : Int} {k : Bool → Out β} (h : k (i != 0) = res) : optK (truth M (.d (.int i))) k = res := h
theorem o_b {b : Bool} {k : Bool → Out β} (h : k b = res) : optK (bool? (.d (.bl b))) k = res := h
theorem o_lt {i j : Int} {k : Bool → Out β} (h : k (decide (i < j)) = res) : optK (cmpv .Lt M (.d (.int i)) (.d (.int j))) k = res := h
theorem o_le {i j : Int} {k : Bool → Out β} (h : k (decide (i ≤ j)) = res) : optK (cmpv .LtE M (.d (.int i)) (.d (.int j))) k = res := h
section
variable {k : List AV → Mem → Out β} {f : SE} {l : SL}
theorem s_d {x : D} {k : AV → Out β} (h : k (.d x) = res) : stK (.d x) k = res := h
theorem s_c {x : Nat} {k : AV → Out β} (h : k (.cell x) = res) : stK (.cell x) k = res := h
theorem s_s {x : List Int} {k : AV → Out β} (h : k (.scr x) = res) : stK (.scr x) k = res := h
theorem s_f {x : List D} {k : AV → Out β} (h : k (.d (.lst x)) = res) : stK (.fr x) k = res := h
theorem l_nil (h : k [] M = res) : el (sNil env M) k kx = res := h
theorem l_cons (h : el (f env M) (fun x M1 => stK x fun y => el (l env M1) (fun xs M2 => k (y :: xs) M2) kx) kx = res) : el (sCons f l env M) k kx = res := by
  rw [← h]
  unfold sCons
  rw [el_bind]
  congr
  funext x M1
  rw [el_bind]
  rfl
end
end
theorem mul_l {i j : Int} (h1 : -18446744073709551616 < i) (h2 : i < 18446744073709551616) : mulOk i j = true := by
  unfold mulOk
  have : i.natAbs < 2 ^ 64 := by omega
  simp [this]
theorem mul_r {i j : Int} (h1 : -18446744073709551616 < j) (h2 : j < 18446744073709551616) : mulOk i j = true := by
  unfold mulOk
  have : j.natAbs < 2 ^ 64 := by omega
  simp [this]
theorem div_s {j : Int} (h1 : -1073741824 < j) (h2 : j < 1073741824) : divOk j = true := by
  unfold divOk
  have : j.natAbs < 2 ^ 30 := by omega
  simp [this]

theorem r_d {M : Mem} {x : D} : endK M.length (.ret (.d x)) M = .ok (.d x) M := by
  show Out.ok (AV.d x) (M.take M.length) = _
  rw [List.take_length]
theorem r_x {M : Mem} {e : Exc} : (Out.exc e (M.take M.length) : Out AV) = .exc e M := by rw [List.take_length]
theorem r_n {M : Mem} {e : Env} : endK M.length (.next e) M = .ok (.d .non) M := by
  show Out.ok (AV.d .non) (M.take M.length) = _
  rw [List.take_length]
theorem sm62 {i : Int} (h1 : -4611686018427387904 ≤ i) (h2 : i < 4611686018427387904) : small62 i = true := by
  unfold small62
  have e1 : -(2 ^ 62 : Int) ≤ i := by simpa using h1
  have e2 : i < (2 ^ 62 : Int) := by simpa using h2
  rw [decide_eq_true e1, decide_eq_true e2]
  rfl
theorem o_rngN {β : Type} {res : Out β} {n : Nat} {k : Itm → Out β} (hn : n ≤ 1000000) (h : k ⟨rngL 0 n, []⟩ = res) : optK (rngItm [.d (.int (n : Int))]) k = res := by
  unfold rngItm
  dsimp only
  rw [if_pos (sm62 (by omega) (by omega)), Int.toNat_natCast]
  exact h
theorem o_rngI {β : Type} {res : Out β} {n : Int} {k : Itm → Out β} (hn : n ≤ 1000000) (h0 : -1000000 ≤ n) (h : k ⟨rngL 0 n.toNat, []⟩ = res) : optK (rngItm [.d (.int n)]) k = res := by
  unfold rngItm
  dsimp only
  rw [if_pos (sm62 (by omega) (by omega))]
  exact h
theorem o_rng2 {β : Type} {res : Out β} {i j : Int} {k : Itm → Out β} (hi : -1000000 ≤ i ∧ i ≤ 1000000) (hj : -1000000 ≤ j ∧ j ≤ 1000000) (h : k ⟨rngL i (j - i).toNat, []⟩ = res) : optK (rngItm [.d (.int i), .d (.int j)]) k = res := by
  unfold rngItm
  dsimp only
  rw [sm62 (i := i) (by omega) (by omega), sm62 (i := j) (by omega) (by omega)]
  exact h
section
variable {β : Type} {kx : Exc → Mem → Out β} {res : Out β} {env : Env} {M : Mem}
theorem e_for {k : Fl → Mem → Out β} {fi : SI} {t : Tg} {s : SS} (h : el (fi env M) (fun itm M1 => el (forL s t itm.deps itm.items env M1) k kx) kx = res) : el (sFor fi t s env M) k kx = res := by rw [← h]; exact el_bind _ _ _ _
/-- o[i] = v -/
def setK (v o i : AV) (M : Mem) (q : Mem → Out β) : Out β := match keepD v.settle M, i with
  | some (d, M4), .d (.int k) => match cellOf? M4 o with
    | some (c, xs) => match L2.ixN xs.length k with
      | some j => q (M4.set c (some (.l (xs.set j d))))
      | none => .bad
    | none => .bad
  | _, _ => .bad
theorem e_setI {k : Fl → Mem → Out β} {fo fi fv : SE} (h : el (fv env M) (fun v M1 => el (fo env M1) (fun o M2 => el (fi env M2) (fun i M3 => setK v o i M3 fun M4 => k (.next env) M4) kx) kx) kx = res) : el (sSetI fo fi fv env M) k kx = res := by
  rw [← h]
  unfold sSetI
  rw [el_bind]
  congr
  funext v M1
  rw [el_bind]
  congr
  funext o M2
  rw [el_bind]
  congr
  funext i M3
  unfold setK
  cases keepD v.settle M3 with
  | none => rfl
  | some p =>
    obtain ⟨d, M4⟩ := p
    cases i with
    | d z =>
      cases z with
      | int n =>
        dsimp only
        cases cellOf? M4 o with
        | none => rfl
        | some q =>
          obtain ⟨c, xs⟩ := q
          dsimp only
          cases L2.ixN xs.length n <;> rfl
      | _ => rfl
    | _ => rfl
theorem st_d {d : D} {o : AV} {c : Nat} {xs : List D} {i : Int} {j : Nat} {q : Mem → Out β} (e1 : cellOf? M o = some (c, xs)) (e2 : L2.ixN xs.length i = some j) (h : q (M.set c (some (.l (xs.set j d)))) = res) : setK (.d d) o (.d (.int i)) M q = res := by
  unfold setK
  show (match keepD (.d d) M, AV.d (.int i) with
    | some (d, M4), .d (.int k) => match cellOf? M4 o with
      | some (c, xs) => match L2.ixN xs.length k with
        | some j => q (M4.set c (some (.l (xs.set j d))))
        | none => .bad
      | none => .bad
    | _, _ => .bad) = res
  unfold keepD
  dsimp only
  rw [e1]
  dsimp only
  rw [e2]
  exact h
/-! ### slices -/
def pK (x : AV) (M : Mem) (k : Option Int → Mem → Out β) : Out β := match x with
  | .d (.int i) => k (some i) M
  | _ => .bad
theorem sp_0 {k : Option Int → Mem → Out β} (h : k none M = res) : el (sPart none env M) k kx = res := h
theorem sp_1 {k : Option Int → Mem → Out β} {f : SE} (h : el (f env M) (fun x M1 => pK x M1 k) kx = res) : el (sPart (some f) env M) k kx = res := by
  rw [← h]
  unfold sPart
  dsimp only
  rw [el_bind]
  congr
  funext x M1
  cases x with
  | d z => cases z <;> rfl
  | _ => rfl
theorem pk_i {k : Option Int → Mem → Out β} {i : Int} (h : k (some i) M = res) : pK (.d (.int i)) M k = res := h
theorem e_slice {k : AV → Mem → Out β} {f : SE} {lo hi : Option SE} (h : el (f env M) (fun x M1 => el (sPart lo env M1) (fun i M2 => el (sPart hi env M2) (fun j M3 => el (cutop x i j M3) k kx) kx) kx) kx = res) : el (sSlice f lo hi env M) k kx = res := by
  rw [← h]
  unfold sSlice
  rw [el_bind]
  congr
  funext x M1
  rw [el_bind]
  congr
  funext i M2
  rw [el_bind]
theorem cut_S {k : AV → Mem → Out β} {ns : List Int} {i j : Option Int} (h : k (.fr (cutG (ns.map D.int) i j)) M = res) : el (cutop (.scr ns) i j M) k kx = res := h
theorem cut_L {k : AV → Mem → Out β} {xs : List D} {i j : Option Int} (h : k (.fr (cutG xs i j)) M = res) : el (cutop (.d (.lst xs)) i j M) k kx = res := h
theorem cut_F {k : AV → Mem → Out β} {xs : List D} {i j : Option Int} (h : k (.fr (cutG xs i j)) M = res) : el (cutop (.fr xs) i j M) k kx = res := h
theorem cut_T {k : AV → Mem → Out β} {xs : List D} {i j : Option Int} (h : k (.d (.tup (cutG xs i j))) M = res) : el (cutop (.d (.tup xs)) i j M) k kx = res := h
theorem o_itF {k : Itm → Out β} {xs : List D} (h : k ⟨xs, []⟩ = res) : optK (seqItm M (.fr xs)) k = res := h
theorem o_itL {k : Itm → Out β} {xs : List D} (h : k ⟨xs, []⟩ = res) : optK (seqItm M (.d (.lst xs))) k = res := h
theorem o_itT {k : Itm → Out β} {xs : List D} (h : k ⟨xs, []⟩ = res) : optK (seqItm M (.d (.tup xs))) k = res := h
end
theorem mem_cutG {α : Type} {xs : List α} {i j : Option Int} {x : α} (h : x ∈ cutG xs i j) : x ∈ xs := by
  unfold cutG at h
  exact List.mem_of_mem_drop (List.mem_of_mem_take h)
theorem for_ok {body : SS} {tg : Tg} {I : Env → Mem → Prop} : ∀ (items : List D) (step : ∀ d ∈ items, ∀ env M, I env M → ∃ e env' M', tg.bind d env = some e ∧ body e M = .ok (.next env') M' ∧ I env' M') (env : Env) (M : Mem), I env M → ∃ env' M', forL body tg [] items env M = .ok (.next env') M' ∧ I env' M'
  | [], _, env, M, h => ⟨env, M, rfl, h⟩
  | d :: r, step, env, M, h => by
    obtain ⟨e, env1, M1, e1, e2, h1⟩ := step d List.mem_cons_self env M h
    obtain ⟨env2, M2, e3, h2⟩ := for_ok r (fun d hd => step d (.tail _ hd)) env1 M1 h1
    refine ⟨env2, M2, ?_, h2⟩
    rw [forL, if_pos (by rfl), e1]
    dsimp only
    rw [e2, Out.bind_ok]
    exact e3
theorem ex_of {α : Type} {P : α → Prop} {X Y : α} (e : Y = X) (h : P X) : P Y := e ▸ h
theorem el_start {α : Type} {r r' : Out α} (h : el r (fun a M => .ok a M) (fun e M => .exc e M) = r') : r = r' := by rw [← el_id r]; exact h
theorem e_loop {β : Type} {kx : Exc → Mem → Out β} {res : Out β} {k : Fl → Mem → Out β} {body : SS} {tg : Tg} {items : List D} {env : Env} {M : Mem} (I : Env → Mem → Prop) (h0 : I env M)
    (step : ∀ d ∈ items, ∀ env M, I env M → ∃ e env' M', tg.bind d env = some e ∧ body e M = .ok (.next env') M' ∧ I env' M') (h : ∀ env' M', I env' M' → k (.next env') M' = res) : el (forL body tg [] items env M) k kx = res := by
  obtain ⟨env', M', e, q⟩ := for_ok items step env M h0
  rw [e]
  exact h env' M' q
end Mp

namespace Mp
open PySem L2 PySem.Spec PyProof.Rows

/-! ## a def that is picked by its value, called -/
abbrev FT := List (Str × (List AV → Mem → Out AV))
def sCallV (tab : FT) (f : SE) (l : SL) : SE := fun env M => (f env M).bind fun x M1 => match x with
  | .d (.fn n) => match tab.lookup n with
    | some F => (l env M1).bind fun avs M2 => F avs M2
    | none => .bad
  | _ => .bad
section
variable {X : Cx} {E : WX} {a e t o : Expr} {es : List Expr} {f fo : SE} {l : SL} {pos p q : Pos} {k : Nat}
theorem gn_fn {x : Str} {g : Addr} (h : X.mg x = some (.ref g)) (hg : Gl X x) (hd : (x == ("__debug__" : Str)) = false) : GE X E (.Name x pos) (sCon (.fn x)) :=
  ge_con (pe_glob (v := .ref g) hg h rfl hd) fun _ _ => .fn h
theorem gn_cal {x : Str} {F : List AV → Mem → Out AV} (c : Cald X k x F) (hg : Gl X x) (hd : (x == ("__debug__" : Str)) = false) : GE X E (.Name x pos) (sCon (.fn x)) := by
  obtain ⟨g, fd, ps, h1, _⟩ := c.ex
  exact gn_fn h1 hg hd
theorem ge_callv {tab : FT} {fe : Expr} (ht : ∀ x F, tab.lookup x = some F → Cald X k x F) (hr : Room k X.A) (tk : Takes X E) (hf : GE X E fe f) (hl : GL X E (e :: es) l)
    (hc : eval (.Call fe (e :: es) [] pos) X.env = (do callWith pos (← eval fe X.env) [] (backTo pos (starEach (e :: es) X.env)) []))
    (he : starEach (e :: es) X.env = (false, eval e X.env) :: starEach es X.env) (hpl : (backTo pos (starEach es X.env)).any (·.1) = false) : GE X E (.Call fe (e :: es) [] pos) (sCallV tab f l) := by
  refine ⟨fun pins s σ H Q I h => ?_⟩
  rw [hc]
  obtain ⟨W, Z, φ, env, M, R, Er, h⟩ := h
  refine wpAny_bind (thn (hf.run pins s σ H _ I ⟨W, Z, φ, env, M, R, Er, (Run.bind h)⟩) fun u s1 ⟨v, H1, I1, rv, W1, M1, x, _, R1, x1, r1, h2⟩ => ?_)
  cases x with
  | d y =>
    cases y with
    | fn n =>
      dsimp only at h2
      cases hn : tab.lookup n with
      | none => rw [hn] at h2; exact h2.elim
      | some F =>
        rw [hn] at h2
        dsimp only at h2
        obtain ⟨g, fd, ps, c1, c2, c3, c4⟩ := (ht n F hn).ex
        have r1 : RD (gm X) (Bar W1 Z) H1 (.fn n) v := r1
        cases r1 with
        | fn hm =>
          have e1 := c1.symm.trans hm
          cases e1
          cases rv
          refine PySem.W.callWith_K (h₀ := X.base) I.ok.mod.kin c2 (thn (hl.run pos pins s1 σ H1 _ I1 ⟨W1, Z, φ, env, M1, R1, Er.ext x1.bar, (Run.bind h2)⟩) fun us s2 ⟨vs, H2, I2, r, W2, M2, avs, _, R2, x2, r2, h3⟩ => ⟨I2.kIn, ?_⟩) he hpl
          exact run_fnS c4 hr c3 (fun pins' H' s' e' s'' I' c' => passAt tk σ pins' H' s' e' s'' I' c') I2 r ⟨W2, Z, φ, M2, avs, R2, r2, h3⟩
    | _ => exact h2.elim
  | _ => exact h2.elim

/-! ## pop -/
theorem ge_meth0 {m : List D → List AV → Mem → Option (D × List D × Mem)} {r : V → List V → Hp → VK → Prop} (ho : GE X E o fo) (hp : ∀ {to : TE}, PE X o to → PE X e (tBM0 X.K "list" r to))
    (hm : ∀ (W Z : Addr → Prop) (φ : List Addr) (M : Mem) (H : Hp), Rel (gm X) W Z φ M H → ∀ xs d ys M', m xs [] M = some (d, ys, M') → ∀ p us, H p = some (.lst us) → RDs (gm X) (Bar W Z) H xs us →
      ∃ W' y ws, Rel (gm X) W' Z φ M' H ∧ (∀ a, W' a → W a) ∧ RD (gm X) (Bar W' Z) H d y ∧ RDs (gm X) (Bar W' Z) H ys ws ∧ ∀ Q : VK, Q y (upd H p (.lst ws)) → r (.ref p) [] H Q) : GE X E e (sMeth m fo sNil) :=
  PE.imp (hp ho) fun σ H Q ⟨W, Z, φ, env, M, R, Er, h⟩ => ⟨W, Z, φ, env, M, R, Er, (Run.bind h).imp fun v H1 ⟨W1, M1, x, _, R1, x1, r1, h2⟩ => by
    cases ec : cellOf? M1 x with
    | none => rw [ec] at h2; exact h2.elim
    | some cx =>
      obtain ⟨c, xs⟩ := cx
      rw [ec] at h2
      obtain ⟨rfl, e1⟩ := cellOf_ok ec
      obtain ⟨p, ep, rfl⟩ := id r1.sr
      obtain ⟨_, us, hp, rus⟩ := R1.cell c p _ ep e1
      refine ⟨tyV_list hp, ?_⟩
      exact meth_run (vs := []) (avs := []) R1 r1.sr trivial (hm W1 Z φ M1 H1 R1) h2⟩
theorem pop0_ok {G : Gm} (W Z : Addr → Prop) (φ : List Addr) (M : Mem) (H : Hp) (avs : List AV) (vs : List V) (R : Rel G W Z φ M H) (ra : SRs G (Bar W Z) φ H avs vs) (xs : List D) (d : D) (ys : List D) (M' : Mem) (h : mPop xs avs M = some (d, ys, M')) (p : Addr) (us : List V)
    (hp : H p = some (.lst us)) (rus : RDs G (Bar W Z) H xs us) (h0 : avs = []) : ∃ W' y ws, Rel G W' Z φ M' H ∧ (∀ a, W' a → W a) ∧ RD G (Bar W' Z) H d y ∧ RDs G (Bar W' Z) H ys ws ∧ ∀ Q : VK, Q y (upd H p (.lst ws)) → rPop (.ref p) vs H Q := by
  subst h0
  match vs, ra with
  | [], _ =>
    unfold mPop at h
    dsimp only at h
    split at h
    · rename_i d1 e1
      cases h
      obtain ⟨y, e2, r⟩ := rus.get e1
      exact ⟨W, y, us.dropLast, R, fun _ z => z, r, rus.dropLast, fun Q q => ⟨p, us, y, rfl, rfl, hp, by rw [← rus.length]; exact e2, q⟩⟩
    · cases h
theorem gm_pop (ho : GE X E o fo) {apos : Pos} (hbase : attributeBase o "pop" X.env (eval o X.env) = eval o X.env) (hline : (apos.endLine == pos.line) = true) : GE X E (.Call (.Attribute o "pop" apos) [] [] pos) (sMeth mPop fo sNil) :=
  ge_meth0 ho (fun h => pe_bm0 F.plainAttrs_list F.slot_list_pop F.type_list_pop mt_pop h (hbase := hbase) (hline := hline)) fun W Z φ M H R xs d ys M' h p us hp rus => pop0_ok W Z φ M H [] [] R trivial xs d ys M' h p us hp rus rfl
/-! ## xs[::-1] -/
def revOp : AV → Mem → Out AV := fun x M => match lstOf M x with
  | some xs => .ok (.fr xs.reverse) M
  | none => .bad
def sRevL (f : SE) : SE := sOne revOp f
theorem ge_revL {j : Nat} {p1 p2 p3 : Pos} (ha : GE X E a f) : GE X E (.Subscript a (.Slice none none (some (.UnaryOp .USub (.Constant (.int 1) j p1) p2)) p3) pos) (sRevL f) :=
  PE.imp (pe_revL ha) fun σ H Q ⟨W, Z, φ, env, M, R, Er, h⟩ => ⟨W, Z, φ, env, M, R, Er, (Run.bind h).imp fun v H1 ⟨W1, M1, x, _, R1, x1, r1, h2⟩ => by
    unfold revOp at h2
    cases e : lstOf M1 x with
    | none => rw [e] at h2; exact h2.elim
    | some xs =>
      rw [e] at h2
      obtain ⟨p, vs, rfl, k1, k2, _⟩ := R1.lst r1.sr e
      exact ⟨p, vs, rfl, k1, Run.new R1 h2 k2.reverse⟩⟩
end
end Mp

namespace RvT
open PySem PySem.W PySem.Calls PyProof.Rows HT
section
variable {prog : Program} {w : World} {A : Around} {E : Value → Shared → Prop} {s : Shared}
theorem applied_rev {sl : Addr} {vk : Value} {n : Nat} {Q : Int × Int × Nat → Shared → Prop} (hs : s.heap.IsSliceOf sl .none .none vk) (pk : IsPart vk (some (-1)))
    (h : Q ((n : Int) - 1, -1, n) s) : wpAny (model prog w) A (Builtin.Slice.sliceApplied (.ref sl) (pure (n : Int))) Q E s := by
  obtain ⟨oz, hz, _, hd⟩ := id hs
  unfold Builtin.Slice.sliceApplied Builtin.Slice.sliceFields
  refine wpAny_bind (wpAny_bind (wpAny_field hz hd (x := .none) rfl (wpAny_bind (wpAny_field hz hd (x := .none) rfl (wpAny_bind (wpAny_field hz hd (x := vk) rfl (wpAny_pure ?_)))))))
  refine wpAny_bind (slicePart_ pk ?_)
  show wpAny _ _ (if ((-1 : Int) == 0) = true then _ else _) _ _ s
  rw [if_neg (by decide)]
  refine wpAny_bind (slicePart_none (wpAny_bind (slicePart_none (wpAny_bind (wpAny_pure ?_)))))
  have e1 : Builtin.Slice.sliceAdjust none none (-1) (n : Int) = ((n : Int) - 1, -1) := rfl
  show wpAny _ _ (match Builtin.Slice.sliceAdjust none none (-1) (n : Int) with | (lo, hi) => pure (lo, (-1 : Int), Builtin.Slice.slicePlaces lo hi (-1))) _ _ s
  rw [e1]
  have e2 : Builtin.Slice.slicePlaces ((n : Int) - 1) (-1) (-1) = n := by
    unfold Builtin.Slice.slicePlaces
    rw [if_neg (by decide)]
    by_cases hn : (n : Int) - 1 > -1
    · rw [if_pos hn, show (-(-1) : Int) = 1 from rfl, Int.ediv_one]
      omega
    · rw [if_neg hn]
      omega
  show wpAny _ _ (pure ((n : Int) - 1, (-1 : Int), Builtin.Slice.slicePlaces ((n : Int) - 1) (-1) (-1))) _ _ s
  rw [e2]
  exact wpAny_pure h
theorem pick_rev (xs : Array Value) : ((List.range xs.size).filterMap fun (m : Nat) => xs[(((xs.size : Int) - 1) + (m : Int) * (-1)).toNat]?).toArray = xs.toList.reverse.toArray := by
  congr 1
  have h := krv_all xs
  have e : ∀ m : Nat, (((xs.size : Int) - 1) + (m : Int) * (-1)).toNat = xs.size - 1 - m := fun m => by omega
  simp only [e]
  have h2 : (List.range xs.size).filterMap (fun m => xs[xs.size - 1 - m]?) = ((List.range xs.size).map (fun k => xs.size - 1 - k)).filterMap (xs[·]?) := by
    rw [List.filterMap_map]
    rfl
  rw [h2, krv_range, List.filterMap_reverse, h]
theorem item_rev {t sl : Addr} {items : Array Value} {vk : Value} {Q : Value → Shared → Prop} (ht : IsTup s.heap t items) (hs : s.heap.IsSliceOf sl .none .none vk) (pk : IsPart vk (some (-1))) (hsz : items.size ≤ sizeLine)
    (h : Q (.ref s.heap.objs.size) { s with heap := s.heap.push { cls := .type "tuple", data := .seq items.toList.reverse.toArray } }) : wpAny (model prog w) A (getItem (.ref t) (.ref sl)) Q E s := by
  have hfit : sizeOk (.seq items.toList.reverse.toArray) := by
    show items.toList.reverse.toArray.size ≤ sizeLine
    rw [List.size_toArray, List.length_reverse, Array.length_toList]
    exact hsz
  obtain ⟨oz, hz, hcz, _⟩ := id hs
  have hTs : s.TypeIs (.ref sl) "slice" := ⟨oz, hz, hcz⟩
  unfold getItem
  try with_reducible refine wpAny_holding ?_
  first | refine wpAny_bind (wpAny_pure ?_) | skip
  refine wpAny_bind (wpAny_sequenceKey ht.typeIs (by decide) ?_)
  refine wpAny_bind (wpAny_callSpecial?_slot (name := Str.ofString "__getitem__") ht.typeIs PyProof.Rows.slot_tuple_getitem (wpAny_call_entry PyProof.Rows.slot_tuple_getitem ht.typeIs entry_tuple_getitem ?_ (args_tuple_getitem _ _)))
  show wpAny _ _ (Builtin.Tuple.tupleItemsOf (.ref t) >>= _) _ _ s
  refine wpAny_bind (tupleItemsOf_ ht (wpAny_bind (wpAny_typeOf hTs ?_)))
  rw [if_pos (by decide)]
  refine wpAny_bind (applied_rev hs pk ?_)
  have hno : ¬ ((((items.size : Int) - 1) == 0 && (-1 : Int) == 1 && items.size == items.size) = true) := by simp
  show wpAny _ _ (if (((items.size : Int) - 1) == 0 && (-1 : Int) == 1 && items.size == items.size) = true then _ else _) _ _ s
  rw [if_neg hno, pick_rev]
  first
    | exact wpAny_bind (m := Builtin.Tuple.tupleExact _) (wpAny_newObj_type (wpAny_pure ⟨_, rfl, wpAny_pure h⟩) hfit)
    | exact wpAny_bind (m := Builtin.Tuple.tupleExact _) (wpAny_newObj_type (wpAny_bind (wpAny_pure (wpAny_pure ⟨_, rfl, wpAny_pure h⟩))) hfit)
    | exact wpAny_bind (wpAny_bind (m := Builtin.Tuple.tupleExact _) (wpAny_newObj_type (wpAny_pure (wpAny_pure ⟨_, rfl, wpAny_pure h⟩)) hfit))
    | exact wpAny_bind (wpAny_bind (m := Builtin.Tuple.tupleExact _) (wpAny_newObj_type (wpAny_pure ⟨_, rfl, wpAny_pure h⟩) hfit))
end
end RvT
namespace L2
open PySem PySem.Spec PyProof.Rows
/-- t[::-1] of a tuple -/
def tRevT (K : PySem.W.Frag) (te : TE) : TE := fun σ H Q => te σ H fun x H1 => ∃ a xs, x = .ref a ∧ SqT K H1 a xs ∧ ∀ p, H1 p = none → Q (.ref p) (upd H1 p (.tup xs.reverse))
theorem pe_rev2 {X : Cx} {e : Expr} {te tf : TE} {k : Nat} {p1 p2 p3 pos : Pos} (he : PE X e te) :
    PE X (.Subscript e (.Slice none none (some (.UnaryOp .USub (.Constant (.int 1) k p1) p2)) p3) pos) (fun σ H Q => te σ H fun x H1 => (∃ a xs, x = .ref a ∧ SqL X.K H1 a xs ∧ ∀ p, H1 p = none → Q (.ref p) (upd H1 p (.lst xs.reverse))) ∨
      ∃ a xs, x = .ref a ∧ SqT X.K H1 a xs ∧ ∀ p, H1 p = none → Q (.ref p) (upd H1 p (.tup xs.reverse))) := by
  refine ⟨fun pins s σ H Q I h => ?_⟩
  refine Subscript_ (thn (he.run pins s σ H _ I h) fun v s1 ⟨x, H1, I1, r1, q1⟩ => ?_)
  have hst : PO X (some (.UnaryOp .USub (.Constant (.int 1) k p1) p2)) (tPart (tUn (rU fun i => .int (-i)) (tC (.int 1)))) := po_some (pe_un un_neg pe_int)
  refine wpAny_Slice (thn (po_none.run pins s1 σ H1 (fun o H2 => o = none ∧ H2 = H1) I1 ⟨rfl, rfl⟩) fun vl s2 ⟨l, H2, I2, pl, el, e2⟩ => ?_)
  subst el e2
  refine thn (po_none.run pins s2 σ H2 (fun o H3 => o = none ∧ H3 = H2) I2 ⟨rfl, rfl⟩) fun vu s3 ⟨u, H3, I3, pu, eu, e3⟩ => ?_
  subst eu e3
  refine thn (hst.run pins s3 σ H3 (fun o H4 => o = some (-1) ∧ H4 = H3) I3 ⟨1, rfl, -1, rfl, rfl, rfl⟩) fun vs s4 ⟨o, H4, I4, ps, eo, e4⟩ => ?_
  subst eo e4
  have I5 : Inv X pins σ H4 { s4 with heap := s4.heap.push { cls := .type "slice", data := .fields #[vl, vu, vs] } } := I4.kept (t' := s4.toks) fun b ob q => Heap.get?_push_of_some _ q
  rcases q1 with ⟨a, xs, ex, hx, q⟩ | ⟨a, xs, ex, hx, q⟩
  · subst ex
    cases r1
    obtain ⟨its, r, ht, hz⟩ := I5.list hx
    have hlen := r.length
    show wpAny (model X.prog X.w) X.A (subscriptTail e (.Slice none none (some (.UnaryOp .USub (.Constant (.int 1) k p1) p2)) p3) (.ref a) (.ref s4.heap.objs.size)) (EP X pins σ Q) X.xe { s4 with heap := s4.heap.push { cls := .type "slice", data := .fields #[vl, vu, vs] } }
    refine tail_any (ops := [.ref a, .ref s4.heap.objs.size]) ht.isList.typeIs (PySem.slot_list_getitem.lookup) ?_ (by with_unfolding_all rfl)
    refine wpAny_getItem_list_slice ht.isList (Heap.IsSliceOf.new _ vl vu vs) pl pu ps (by decide) ?_ (by rw [List.size_toArray]; omega)
    rw [PySem.W.krv_pick]
    refine ⟨.ref _, _, I5.laid (t' := s4.toks) (o := .lst xs.reverse) (fun b ob q => Heap.get?_push_of_some _ q) (Nat.le_refl _) ?_, rfl, q _ (I5.hok.fresh (Nat.le_refl _))⟩
    exact ⟨by rw [List.length_reverse]; exact hz, _, 0, r.reverse, Heap.get?_push_size _ rfl⟩
  · subst ex
    cases r1
    cases pl
    cases pu
    obtain ⟨its, r, ht, hz⟩ := I5.tuple hx
    have hlen := r.length
    show wpAny (model X.prog X.w) X.A (subscriptTail e (.Slice none none (some (.UnaryOp .USub (.Constant (.int 1) k p1) p2)) p3) (.ref a) (.ref s4.heap.objs.size)) (EP X pins σ Q) X.xe { s4 with heap := s4.heap.push { cls := .type "slice", data := .fields #[.none, .none, vs] } }
    refine tail_any (ops := [.ref a, .ref s4.heap.objs.size]) ht.typeIs (PyProof.Rows.slot_tuple_getitem.lookup) ?_ (by with_unfolding_all rfl)
    refine RvT.item_rev ht (Heap.IsSliceOf.new _ .none .none vs) ps (by rw [List.size_toArray]; omega) ?_
    refine ⟨.ref _, _, I5.laid (t' := s4.toks) (o := .tup xs.reverse) (fun b ob q => Heap.get?_push_of_some _ q) (Nat.le_refl _) ?_, rfl, q _ (I5.hok.fresh (Nat.le_refl _))⟩
    exact ⟨by rw [List.length_reverse]; exact hz, _, r.reverse, IsTup.new _ _⟩
end L2
namespace Mp
open PySem L2 PySem.Spec PyProof.Rows
def rev2Op : AV → Mem → Out AV := fun x M => match lstOf M x, tupOf x with
  | some xs, _ => .ok (.fr xs.reverse) M
  | none, some xs => .ok (.d (.tup xs.reverse)) M
  | none, none => .bad
def sRev (f : SE) : SE := sOne rev2Op f
theorem ge_rev {X : Cx} {E : WX} {a : Expr} {f : SE} {j : Nat} {p1 p2 p3 pos : Pos} (ha : GE X E a f) : GE X E (.Subscript a (.Slice none none (some (.UnaryOp .USub (.Constant (.int 1) j p1) p2)) p3) pos) (sRev f) :=
  PE.imp (pe_rev2 (tf := rdE (gm X) f E) ha) fun σ H Q ⟨W, Z, φ, env, M, R, Er, h⟩ => ⟨W, Z, φ, env, M, R, Er, (Run.bind h).imp fun v H1 ⟨W1, M1, x, _, R1, x1, r1, h2⟩ => by
    unfold rev2Op at h2
    cases e : lstOf M1 x with
    | some xs =>
      rw [e] at h2
      obtain ⟨p, vs, rfl, k1, k2, _⟩ := R1.lst r1.sr e
      exact .inl ⟨p, vs, rfl, k1, Run.new R1 h2 k2.reverse⟩
    | none =>
      cases e2 : tupOf x with
      | none => rw [e, e2] at h2; exact h2.elim
      | some xs =>
        rw [e, e2] at h2
        obtain ⟨p, vs, rfl, k1, k2⟩ := tup_met r1.sr e2
        exact .inr ⟨p, vs, rfl, k1.sq, Run.tup R1 h2 k2.reverse⟩⟩
theorem tab_nil {X : Cx} {k : Nat} : ∀ (y : Str) (G : List AV → Mem → Out AV), ([] : FT).lookup y = some G → Cald X k y G := fun _ _ h => by cases h
theorem tab_cons {X : Cx} {k : Nat} {x : Str} {F : List AV → Mem → Out AV} {tab : FT} (c : Cald X k x F) (r : ∀ (y : Str) (G : List AV → Mem → Out AV), tab.lookup y = some G → Cald X k y G) :
    ∀ (y : Str) (G : List AV → Mem → Out AV), (((x, F) :: tab : FT)).lookup y = some G → Cald X k y G := fun y G h => by
  rw [List.lookup_cons] at h
  split at h
  · rename_i e
    cases h
    rw [eq_of_beq e]
    exact c
  · exact r y G h
end Mp

namespace EnT
open PySem
open Sem (wp)
open AutoSeq1 (wpAny_loadPart')
set_option maxHeartbeats 1000000 in
theorem new_tup (t : Addr) (items : Array Value) (n : Nat) (dct : Option Addr) (sl : Array (Option Value)) :
    Meets (Builtin.«enumerate.__new__» ⟨[.type "enumerate", .ref t], []⟩) (fun _ R s => s.heap.get? t = some { cls := .type "tuple", dict := dct, data := .seq items n, slots := sl } ∧
      R (.ok (.ret (.ref (s.heap.push { cls := .type "tuple_iterator", data := .fields #[.ref t, .int 0 0] }).objs.size)))
        { s with heap := (s.heap.push { cls := .type "tuple_iterator", data := .fields #[.ref t, .int 0 0] }).push { cls := .type "enumerate", data := .fields #[.none, .bool false, .ref s.heap.objs.size, rawInt 0, .none, .none] } }) :=
  .of_wp fun prog w A R s h => by
    obtain ⟨hp, g, d, tk, os⟩ := s; obtain ⟨hl, h⟩ := h
    have hsub := sub_enumerate
    have hL : Heap.IsTuple (Shared.heap ⟨hp, g, d, tk, os⟩) t items := ⟨_, hl, rfl, n, rfl⟩
    wp_walk using wpAny_loadPart' hl
    refine wpAny_stack_any fun st => wpAny_pure ?_
    split
    · rename_i c _ _ _ _ _
      cases (c == Value.type "enumerate")
      · wp_walk using wpAny_loadPart' hl, wpAny_pyIter_tuple hL
        exact ⟨_, rfl, h⟩
      · wp_walk using wpAny_loadPart' hl, wpAny_pyIter_tuple hL
        exact ⟨_, rfl, h⟩
    · wp_walk using wpAny_loadPart' hl, wpAny_pyIter_tuple hL
      exact ⟨_, rfl, h⟩
section
variable {prog : Program} {w : World} {A : Around} {E : Value → Shared → Prop} {s : Shared}
theorem call_tup {t : Addr} {items : Array Value} {Q : Value → Shared → Prop} (hL : s.heap.IsTuple t items)
    (h : ∀ h', IsEnum h' (s.heap.objs.size + 1) s.heap.objs.size 0 .none → h'.IsTupleIter s.heap.objs.size t 0 → h'.objs.size = s.heap.objs.size + 2 →
      (∀ b o, s.heap.get? b = some o → h'.get? b = some o) → Q (.ref (s.heap.objs.size + 1)) { s with heap := h' }) :
    wpAny (model prog w) A (call (.type "enumerate") [.ref t]) Q E s := by
  obtain ⟨⟨c, dct, dt, sl⟩, hl, hc, n, hd⟩ := hL
  replace hc : c = .type "tuple" := hc
  replace hd : dt = .seq items n := hd
  subst hc hd
  refine callType_new F.called_enumerate (by decide) (F.typeCall_enumerate_1 _) (F.newCall_enumerate_1 _) (fun obj => F.args_object_init_2 obj _) F.entry_enumerate_new (new_tup t items n dct sl) ⟨hl, ?_⟩
  have hz : (s.heap.push { cls := .type "tuple_iterator", data := .fields #[.ref t, .int 0 0] }).objs.size = s.heap.objs.size + 1 := Heap.size_push ..
  show _ ∧ _
  rw [hz]
  have he : IsEnum ((s.heap.push { cls := .type "tuple_iterator", data := .fields #[.ref t, .int 0 0] }).push
      { cls := .type "enumerate", data := .fields #[.none, .bool false, .ref s.heap.objs.size, rawInt 0, .none, .none] }) (s.heap.objs.size + 1) s.heap.objs.size 0 .none := by
    have z := Heap.get?_push_size (s.heap.push { cls := .type "tuple_iterator", data := .fields #[.ref t, .int 0 0] })
      (o := { cls := .type "enumerate", data := .fields #[.none, .bool false, .ref s.heap.objs.size, rawInt 0, .none, .none] }) rfl
    rw [hz] at z
    exact z
  exact ⟨⟨_, he, rfl⟩, h _ he ⟨_, Heap.get?_push_of_some _ (Heap.get?_push_size _ rfl), rfl, rfl⟩ (by rw [Heap.size_push, hz]) fun b o x => Heap.get?_push_of_some _ (Heap.get?_push_of_some _ x)⟩
end
theorem draws_tup {prog : Program} {w : World} {A : Around} (hh : A.handled = none) (it t : Addr) (hne : t ≠ it) (items : Array Value) :
    Draws prog w A it [it, t] items.size (fun i v => items[i]? = some v) (fun i h => h.IsTupleIter it t i ∧ h.IsTuple t items) where
  live := fun _ _ st => let ⟨o, ho, _⟩ := st.1; ⟨o, ho⟩
  frame := fun _ _ _ st hk => ⟨st.1.at fun o e => hk it (by simp) o e, let ⟨o, e, r⟩ := st.2; ⟨o, hk t (by simp) o e, r⟩⟩
  item := fun i s Q E hi st hQ => by
    refine RZ.nextOf_tuple_item st.1 st.2 (x := items[i]) (by simp [hi]) fun h' hit' hs' => ?_
    exact hQ _ h' s.toks (by simp [hi]) ⟨hit', let ⟨o, e, r⟩ := st.2; ⟨o, hs'.extBut t o hne e, r⟩⟩ hs'
  done := fun s Q E st hE => RZ.nextOf_tuple_end hh st.1 st.2 (by simp) hE
theorem draws_end {prog : Program} {w : World} {A : Around} (hh : A.handled = none) (it t : Addr) (items : Array Value) (i : Nat) (hi : items[i]? = none) :
    Draws prog w A it [it, t] 0 (fun _ _ => False) (fun _ h => h.IsTupleIter it t i ∧ h.IsTuple t items) where
  live := fun _ _ st => let ⟨o, ho, _⟩ := st.1; ⟨o, ho⟩
  frame := fun _ _ _ st hk => ⟨st.1.at fun o e => hk it (by simp) o e, let ⟨o, e, r⟩ := st.2; ⟨o, hk t (by simp) o e, r⟩⟩
  item := fun i s Q E hi st hQ => absurd hi (Nat.not_lt_zero _)
  done := fun s Q E st hE => RZ.nextOf_tuple_end hh st.1 st.2 hi hE
end EnT
namespace L2
open PySem PySem.Spec PyProof.Rows
/-- the tuple at a, each item in a new pair with its place -/
def IteT (K : PySem.W.Frag) (a : Addr) : It :=
  ⟨fun i H => ∃ (xs : List V) (x : V), SqT K H a xs ∧ xs[i]? = some x, fun i H v H' => ∃ T x, v = .ref T ∧ H T = none ∧ H' = upd H T (.tup [.int (i : Nat), x]) ∧ ∀ xs, SqT K H a xs → xs[i]? = some x, fun i H => ∃ xs : List V, SqT K H a xs ∧ xs.length ≤ i⟩
theorem turn_enumT {P : Program} {w : World} {K : PySem.W.Frag} {elts : List Expr} {kk : Nat} {tpos : Pos} (a e it : Addr) (hai : a ≠ it) (hae : a ≠ e) :
    Turn P w K (.Tuple elts kk tpos) (IteT K a) [e, it] e (fun i h => (∃ old, IsEnum h e it ((i : Nat) : Int) old) ∧ h.IsTupleIter it a i ∧ e ≠ it) where
  mem := by simp
  obj := fun i h st b hb => by
    obtain ⟨⟨old, he⟩, ⟨o, ho, hc, hd⟩, _⟩ := st
    have e' : b = e ∨ b = it := by simpa using hb
    rcases e' with z | z
    · rw [z]; exact ⟨_, he, fun v q => nomatch q⟩
    · rw [z]; exact ⟨o, ho, fun v q => by rw [hd] at q; cases q⟩
  keep := fun i h h' st k => let ⟨⟨old, he⟩, hi, hne⟩ := st; ⟨⟨old, k e (by simp) _ he⟩, hi.at fun o q => k it (by simp) o q, hne⟩
  item := by
    intro X hP hw hK hc i pins s σ H E I hf st hg
    subst hP hw hK
    obtain ⟨⟨old, he⟩, hit, hne⟩ := st
    obtain ⟨xs, x, hq, hx⟩ := hg
    obtain ⟨its, rv, p, hz⟩ := I.tuple hq
    obtain ⟨u, hu, ru⟩ := rv.get hx
    have hel : e < s.heap.objs.size := Heap.lt_size he
    have hil : it < s.heap.objs.size := by obtain ⟨_, q, _⟩ := hit; exact Heap.lt_size q
    have hT0 : s.heap.IsTuple a its.toArray := p
    have hlt : i < its.toArray.size := by
      rw [List.size_toArray]
      exact (List.getElem?_eq_some_iff.mp hu).1
    refine wpAny_pyNext_enum_itemD (EnT.draws_tup (A := X.A.in1) (I.ok.hd hc) it a hai its.toArray) he ⟨hit, hT0⟩ hlt hne (by simp; exact ⟨hne, fun z => hae z.symm⟩) fun y h' tk hy ho hit' hT hsz hk => ?_
    have ey : y = u := by
      rw [List.getElem?_toArray, hu] at hy
      exact (Option.some.inj hy).symm
    subst ey
    refine ⟨_, rfl, wpAny_letOwnedTupleGo_enum (s := { s with heap := h', toks := tk + 1 }) ho fun h'' he' sb => ?_⟩
    have hT2 : h''.get? s.heap.objs.size = some { cls := .type "tuple", data := .seq #[.int i tk, y] } := (sb.2 _ (Nat.ne_of_gt hel)).trans hT
    have new : ObjOk X.prog X.w (upd H s.heap.objs.size (.tup [.int (i : Nat), x])) h'' s.heap.objs.size (.tup [.int (i : Nat), x]) :=
      ⟨by show 2 ≤ sizeLine; decide, [.int i tk, y], .cons ⟨_, rfl⟩ (.cons ru .nil), ⟨_, hT2, rfl, _, rfl⟩⟩
    have I1 : Inv X pins σ (upd H s.heap.objs.size (.tup [.int (i : Nat), x])) { s with heap := h'', toks := tk + 1 } :=
      I.turnedNew (ch := [e, it]) (fun b ob hb q => (sb.2 b (fun z => hb (by simp [z]))).trans (hk b ob (fun z => hb (by simp [z])) (fun z => hb (by simp [z])) q)) hf (Nat.le_refl _) new
    refine ⟨.ref s.heap.objs.size, _, I1, rfl, ⟨_, x, rfl, I.hok.fresh (Nat.le_refl _), rfl, fun ys hy => ?_⟩, ⟨⟨y, ?_⟩, hit'.1.at fun o q => (sb.2 it (Ne.symm hne)).trans q, hne⟩, fun b hb => ?_⟩
    · rw [I.tuple_inj hy hq]; exact hx
    · have e1 : ((i + 1 : Nat) : Int) = (i : Int) + 1 := by omega
      rw [e1]; exact he'
    · have hb' : b < s.heap.objs.size := by
        have e' : b = e ∨ b = it := by simpa using hb
        rcases e' with z | z
        · rw [z]; exact hel
        · rw [z]; exact hil
      rw [upd_ne (Nat.ne_of_lt hb')]
      exact (hf b hb).1
  done := by
    intro X hP hw hK hc i pins s σ H E I hf st hg
    subst hP hw hK
    obtain ⟨⟨old, he⟩, hit, hne⟩ := st
    obtain ⟨xs, hq, hx⟩ := hg
    obtain ⟨its, rv, p, hz⟩ := I.tuple hq
    obtain ⟨f0, f1, f2, f3, f4, f5⟩ := hf it (by simp)
    have hl := rv.length
    exact wpAny_pyNext_enum_endD (EnT.draws_end (A := X.A.in1) (I.ok.hd hc) it a its.toArray i (by rw [List.getElem?_toArray]; exact List.getElem?_eq_none (by omega))) he ⟨hit, p⟩ fun h' eb => ⟨rfl, I.turned (t' := s.toks) (fun b o hb q => eb b o hb q) f0 f1 f3 f4 f5⟩
  self := fun A i s Q E st h => let ⟨⟨_, he⟩, _⟩ := st; wpAny_pyIter_enum he h
/-- enumerate(x): x a list, a tuple -/
theorem pi_enum2 {X : Cx} {e : Expr} {ta : TA} {p pos tpos : Pos} {elts : List Expr} {kk : Nat} (hg : Gl X "enumerate") (hm : X.mg "enumerate" = none) (ha : PA X [e] ta) (hs : starEach [e] X.env = [(false, eval e X.env)]) :
    PI X (.Tuple elts kk tpos) (.Call (.Name "enumerate" p) [e] [] pos) (fun σ H R => ta σ H fun vs H1 => (∃ a xs, vs = [.ref a] ∧ SqL X.K H1 a xs ∧ R (Ite X.K a) H1) ∨ ∃ a xs, vs = [.ref a] ∧ SqT X.K H1 a xs ∧ R (IteT X.K a) H1) := by
  refine ⟨fun pins s σ H R I h => ?_⟩
  refine Call_ (ld_blt I hg hm boot_enumerate (PyProof.Rows.callWith_type1 (thn (ha.run pos pins s σ H _ I h) fun us s1 ⟨vs, H1, I1, r1, q1⟩ => ?_) hs rfl))
  have room : ∀ b, b ∈ [s1.heap.objs.size + 1, s1.heap.objs.size] → s1.heap.objs.size ≤ b := fun b hb => by
    have e' : b = s1.heap.objs.size + 1 ∨ b = s1.heap.objs.size := by simpa using hb
    rcases e' with z | z
    · rw [z]; exact Nat.le_add_right _ _
    · rw [z]; exact Nat.le_refl _
  rcases q1 with ⟨a, xs, ex, hq, q⟩ | ⟨a, xs, ex, hq, q⟩
  · subst ex
    cases r1 with
    | cons r rr =>
      cases rr
      cases r
      obtain ⟨its, rv, p', hz⟩ := I1.list hq
      refine call_enumerate_list p'.isList fun h' he hit hsz hk => wpAny_pyIter_enum he ?_
      have I2 : Inv X pins σ H1 { s1 with heap := h' } := I1.kept (t' := s1.toks) hk
      exact ⟨s1.heap.objs.size + 1, [s1.heap.objs.size + 1, s1.heap.objs.size], _, _, H1, rfl, I2, turn_enum a (s1.heap.objs.size + 1) s1.heap.objs.size, ⟨⟨.none, he⟩, hit, Nat.succ_ne_self _⟩, fun b hb => I1.fpOk (room b hb) (I1.hok.fresh (room b hb)), q⟩
  · subst ex
    cases r1 with
    | cons r rr =>
      cases rr
      cases r
      obtain ⟨its, rv, p', hz⟩ := I1.tuple hq
      have hlt : a < s1.heap.objs.size := by obtain ⟨o, e, _⟩ := id p'; exact Heap.lt_size e
      refine EnT.call_tup p' fun h' he hit hsz hk => wpAny_pyIter_enum he ?_
      have I2 : Inv X pins σ H1 { s1 with heap := h' } := I1.kept (t' := s1.toks) hk
      exact ⟨s1.heap.objs.size + 1, [s1.heap.objs.size + 1, s1.heap.objs.size], _, _, H1, rfl, I2, turn_enumT a (s1.heap.objs.size + 1) s1.heap.objs.size (Nat.ne_of_lt hlt) (Nat.ne_of_lt (Nat.lt_succ_of_lt hlt)), ⟨⟨.none, he⟩, hit, Nat.succ_ne_self _⟩, fun b hb => I1.fpOk (room b hb) (I1.hok.fresh (room b hb)), q⟩
end L2
namespace Mp
open PySem L2 PySem.Spec PyProof.Rows
def enumItm2 (M : Mem) : List AV → Option Itm
  | [x] => match lstOf M x, tupOf x with
    | some xs, _ => some ⟨enumL 0 xs, depOf x xs⟩
    | none, some xs => some ⟨enumL 0 xs, []⟩
    | none, none => none
  | _ => none
theorem walk_enumT {K : PySem.W.Frag} {a : Addr} {n : Nat} : Walk (IteT K a) n (fun H => ∃ vs, SqT K H a vs ∧ vs.length = n)
    (fun i H v H' => ∃ T x, v = .ref T ∧ H T = none ∧ H' = upd H T (.tup [.int (i : Nat), x]) ∧ ∀ vs, SqT K H a vs → vs[i]? = some x) :=
  ⟨fun i H hi ⟨vs, q, e⟩ => ⟨vs, vs[i]'(by omega), q, by simp [e, hi]⟩, fun H ⟨vs, q, e⟩ => ⟨vs, q, by omega⟩, fun _ _ _ _ _ _ y => y⟩
theorem gi_enum2 {X : Cx} {E : WX} {a : Expr} {es : List Expr} {l : SL} {pos p tpos : Pos} {kk : Nat} (hg : Gl X "enumerate") (hm : X.mg "enumerate" = none) (hs : starEach [a] X.env = [(false, eval a X.env)]) (hl : GL X E [a] l) : GI X E (.Tuple es kk tpos) (.Call (.Name "enumerate" p) [a] [] pos) (sItm enumItm2 l) :=
  PI.imp (pi_enum2 hg hm hl hs) fun σ H Q ⟨W, Z, φ, env, M, R, Er, h⟩ => ⟨W, Z, φ, env, M, R, Er, (RunI.bind h).imp fun vs H1 ⟨W1, M1, avs, e, R1, x1, r1, h2⟩ => by
    unfold enumItm2 at h2
    split at h2
    · rename_i it e2
      split at e2
      · obtain ⟨v, rfl, r⟩ := r1.one
        split at e2
        · rename_i xs el
          cases e2
          obtain ⟨p, rfl, ⟨vs, hq⟩, hL⟩ := lst_later R1 r el
          refine .inl ⟨p, vs, rfl, hq, IR.run R1 h2 ⟨_, _, walk_enumA, fun Z' W ψ M H L => ?_, fun i y H' Z' W ψ M H L hi hy => ?_⟩⟩
          · obtain ⟨vs, h1, h2⟩ := hL _ Z' W ψ M H (fun _ z => z) L
            exact ⟨vs, h1, by rw [← h2.length]; exact (enumL_len xs 0).symm⟩
          · obtain ⟨vs, h1, h2⟩ := hL _ Z' W ψ M H (fun _ z => z) L
            obtain ⟨T, u, rfl, hT, rfl, hy⟩ := hy
            have hy := hy vs h1
            have hi : i < xs.length := by simpa [enumL_len] using hi
            obtain ⟨w, e1, r1⟩ := h2.get (show xs[i]? = some xs[i] by simp [hi])
            rw [hy] at e1; cases e1
            obtain ⟨p1, p2, p3⟩ := pair_new L.rel hT (.int (i : Int)) r1
            refine ⟨_, enumL_at (show xs[i]? = some xs[i] by simp [hi]), p1, p2, ?_⟩
            rw [Nat.zero_add]
            exact p3
        · rename_i xs _ et
          cases e2
          obtain ⟨p, vs, rfl, t1, d1⟩ := tup_met r et
          refine .inr ⟨p, vs, rfl, t1.sq, IR.run R1 h2 ⟨_, _, walk_enumT, fun Z' W ψ M H L => ?_, fun i y H' Z' W ψ M H L hi hy => ?_⟩⟩
          · exact ⟨vs, (t1.ext L.rd).sq, by rw [← d1.length]; exact (enumL_len xs 0).symm⟩
          · obtain ⟨T, u, rfl, hT, rfl, hy⟩ := hy
            have hy := hy vs (t1.ext L.rd).sq
            have hi : i < xs.length := by simpa [enumL_len] using hi
            obtain ⟨w, e1, r1⟩ := (d1.ext L.rd).get (show xs[i]? = some xs[i] by simp [hi])
            rw [hy] at e1; cases e1
            obtain ⟨p1, p2, p3⟩ := pair_new L.rel hT (.int (i : Int)) r1
            refine ⟨_, enumL_at (show xs[i]? = some xs[i] by simp [hi]), p1, p2, ?_⟩
            rw [Nat.zero_add]
            exact p3
        · cases e2
      · cases e2
    · exact h2.elim⟩
end Mp

namespace Mp
open PySem

/-! ## more of stepping: while, walks over data, methods, picked defs -/
theorem while_n {c : SB} {body : SS} {I P : Env → Mem → Prop} (μ : Env → Mem → Nat)
    (step : ∀ env M, I env M → (c env M = .ok false M ∧ P env M) ∨ (c env M = .ok true M ∧ ∃ env' M', body env M = .ok (.next env') M' ∧ I env' M' ∧ μ env' M' < μ env M)) :
    ∀ (n : Nat) (env : Env) (M : Mem), I env M → μ env M < n → ∃ env' M', whileF c body n env M = .ok (.next env') M' ∧ P env' M'
  | 0, _, _, _, h => absurd h (Nat.not_lt_zero _)
  | n + 1, env, M, h, hn => by
    unfold whileF
    rcases step env M h with ⟨e, q⟩ | ⟨e, env', M', e2, q, hm⟩
    · rw [e]
      exact ⟨env, M, rfl, q⟩
    · obtain ⟨env2, M2, e3, q2⟩ := while_n μ step n env' M' q (by omega)
      rw [e]
      refine ⟨env2, M2, ?_, q2⟩
      show ((body env M).bind _) = _
      rw [e2]
      exact e3
theorem big_le : 2 ^ 200 ≤ bigF := by
  unfold bigF
  exact Nat.pow_le_pow_right (Nat.le_succ 1) (by decide)
theorem e_while {β : Type} {kx : Exc → Mem → Out β} {res : Out β} {k : Fl → Mem → Out β} {c : SB} {body : SS} {env : Env} {M : Mem} (I P : Env → Mem → Prop) (μ : Env → Mem → Nat) (h0 : I env M)
    (step : ∀ env M, I env M → (c env M = .ok false M ∧ P env M) ∨ (c env M = .ok true M ∧ ∃ env' M', body env M = .ok (.next env') M' ∧ I env' M' ∧ μ env' M' < μ env M)) (hμ : μ env M < 2 ^ 200)
    (h : ∀ env' M', P env' M' → k (.next env') M' = res) : el (sWhile c body env M) k kx = res := by
  unfold sWhile
  obtain ⟨env', M', e, q⟩ := while_n μ step bigF env M h0 (Nat.lt_of_lt_of_le hμ big_le)
  rw [e]
  exact h env' M' q
theorem comp_ok {f : SE} {c : SB} {tg : Tg} {vs : List Nat} {env : Env} {M : Mem} {g : D → D} {p : D → Bool} : ∀ (items acc : List D)
    (h : ∀ d ∈ items, ∃ e, tg.bind d (wipeE env vs) = some e ∧ c e M = .ok (p d) M ∧ (p d = true → ∃ av, f e M = .ok av M ∧ keepD av M = some (g d, M))) (hl : acc.length + items.length ≤ 1000000),
    compL f c tg vs [] env items acc M = .ok (.fr (acc ++ (items.filter p).map g)) M
  | [], acc, _, _ => by simp [compL, depsOk]
  | d :: r, acc, h, hl => by
    obtain ⟨e, e1, e2, e3⟩ := h d List.mem_cons_self
    have hr := fun d hd => h d (.tail _ hd)
    rw [List.length_cons] at hl
    rw [compL, if_pos (by rfl), e1]
    dsimp only
    rw [e2]
    cases hp : p d with
    | false =>
      dsimp only
      rw [comp_ok r acc hr (by omega), List.filter_cons_of_neg (by rw [hp]; decide)]
    | true =>
      obtain ⟨av, e4, e5⟩ := e3 hp
      dsimp only
      rw [e4]
      dsimp only
      rw [e5]
      dsimp only
      have hs : acc.length < sizeLine := Nat.lt_of_lt_of_le (show acc.length < 1000001 by omega) (by decide)
      rw [if_pos hs, comp_ok r (acc ++ [g d]) hr (by rw [List.length_append, List.length_singleton]; omega), List.filter_cons_of_pos hp, List.map_cons, List.append_assoc, List.singleton_append]
theorem e_compE {β : Type} {kx : Exc → Mem → Out β} {res : Out β} {k : AV → Mem → Out β} {f : SE} {c : SB} {tg : Tg} {vs : List Nat} {env : Env} {M : Mem} {items : List D} (g : D → D) (p : D → Bool)
    (h : ∀ d ∈ items, ∃ e, tg.bind d (wipeE env vs) = some e ∧ c e M = .ok (p d) M ∧ (p d = true → ∃ av, f e M = .ok av M ∧ keepD av M = some (g d, M))) (hl : items.length ≤ 1000000)
    (q : k (.fr ((items.filter p).map g)) M = res) : el (compL f c tg vs [] env items [] M) k kx = res := by
  rw [comp_ok items [] h (by simpa using hl)]
  exact q
section
variable {β : Type} {kx : Exc → Mem → Out β} {res : Out β} {env : Env} {M : Mem}
def gK (b : Bool) (r : Out β) : Out β := if b = true then r else .bad
theorem gk_t {b : Bool} {r : Out β} (e : b = true) (h : r = res) : gK b r = res := by unfold gK; rw [if_pos e]; exact h
def mK (m : List D → List AV → Mem → Option (D × List D × Mem)) (o : AV) (avs : List AV) (M : Mem) (k : AV → Mem → Out β) : Out β := match cellOf? M o with
  | none => .bad
  | some (_, xs) => match m xs avs M with
    | none => .bad
    | some (d, ys, M3) => match cellOf? M3 o with
      | none => .bad
      | some (c, _) => k (.d d) (M3.set c (some (.l ys)))
theorem e_meth {m : List D → List AV → Mem → Option (D × List D × Mem)} {fo : SE} {l : SL} {k : AV → Mem → Out β} (h : el (fo env M) (fun o M1 => gK (cellOf? M1 o).isSome (el (l env M1) (fun avs M2 => mK m o avs M2 k) kx)) kx = res) : el (sMeth m fo l env M) k kx = res := by
  rw [← h]
  unfold sMeth
  rw [el_bind]
  congr
  funext o M1
  unfold gK
  cases cellOf? M1 o with
  | none => rfl
  | some p =>
    dsimp only
    rw [if_pos (by rfl), el_bind]
    congr
    funext avs M2
    unfold mK
    cases cellOf? M2 o with
    | none => rfl
    | some p =>
      obtain ⟨c, xs⟩ := p
      dsimp only
      cases m xs avs M2 with
      | none => rfl
      | some t =>
        obtain ⟨d, ys, M3⟩ := t
        dsimp only
        cases cellOf? M3 o with
        | none => rfl
        | some p => rfl
theorem m_app {k : AV → Mem → Out β} {c : Nat} {xs : List D} {x : D} (e : M[c]? = some (some (.l xs))) (hl : xs.length < 1000000) (h : k (.d .non) (M.set c (some (.l (xs ++ [x])))) = res) : mK mAppend (.cell c) [.d x] M k = res := by
  have e1 : cellOf? M (.cell c) = some (c, xs) := by unfold cellOf?; dsimp only; rw [e]
  unfold mK
  rw [e1]
  have hs : xs.length < sizeLine := Nat.lt_of_lt_of_le hl (by decide)
  have e2 : mAppend xs [.d x] M = some (.non, xs ++ [x], M) := by
    unfold mAppend keepD
    dsimp only
    rw [if_pos hs]
  dsimp only
  rw [e2]
  dsimp only
  rw [e1]
  exact h
/-- the cell that was made last -/
theorem last_get {xs : List D} : (M ++ [some (MC.l xs)])[M.length]? = some (some (.l xs)) := by simp
theorem last_set {xs ys : List D} : (M ++ [some (MC.l xs)]).set M.length (some (.l ys)) = M ++ [some (.l ys)] := by simp
theorem m_appL {k : AV → Mem → Out β} {xs : List D} {x : D} (hl : xs.length < 1000000) (h : k (.d .non) (M ++ [some (.l (xs ++ [x]))]) = res) : mK mAppend (.cell M.length) [.d x] (M ++ [some (.l xs)]) k = res :=
  m_app last_get hl (by rw [last_set]; exact h)
theorem gk_L {xs : List D} {r : Out β} (h : r = res) : gK (cellOf? (M ++ [some (MC.l xs)]) (.cell M.length)).isSome r = res := gk_t (by unfold cellOf?; dsimp only; rw [last_get]; rfl) h
/-- the last item of a cell -/
theorem atI_neg1 {xs : List D} {x : D} : L2.atI (xs ++ [x]) (-1) = some x := by
  unfold L2.atI L2.ixN
  rw [if_neg (by decide), if_pos (by rw [List.length_append]; simp; omega)]
  show (xs ++ [x])[((-1 : Int) + ((xs ++ [x]).length : Nat)).toNat]? = some x
  have e : ((-1 : Int) + ((xs ++ [x]).length : Nat)).toNat = xs.length := by rw [List.length_append, List.length_singleton]; omega
  rw [e]
  simp
theorem idx_cell {c : Nat} {i : Int} {xs : List D} {x : D} (e : M[c]? = some (some (.l xs))) (e2 : L2.atI xs i = some x) : idx (.cell c) (.d (.int i)) M = .ok (.d x) M := by
  have h : lstOf M (.cell c) = some xs := by unfold lstOf; dsimp only; rw [e]
  unfold idx
  dsimp only
  rw [h]
  dsimp only
  rw [e2]
theorem idx_lst {i : Int} {xs : List D} {x : D} (e2 : L2.atI xs i = some x) : idx (.d (.lst xs)) (.d (.int i)) M = .ok (.d x) M := by
  unfold idx lstOf
  dsimp only
  rw [e2]
theorem idx_tup {i : Int} {xs : List D} {x : D} (e2 : L2.atI xs i = some x) : idx (.d (.tup xs)) (.d (.int i)) M = .ok (.d x) M := by
  unfold idx lstOf
  dsimp only
  rw [e2]
theorem atI_nat {α : Type} {xs : List α} {i : Nat} {x : α} (h : xs[i]? = some x) : L2.atI xs (i : Int) = some x := by
  have hi := (List.getElem?_eq_some_iff.mp h).1
  unfold L2.atI L2.ixN
  rw [if_pos (by omega), if_pos (by omega), Int.toNat_natCast]
  exact h
theorem atI_int {α : Type} {xs : List α} {i : Int} {x : α} (h0 : 0 ≤ i) (h : xs[i.toNat]? = some x) : L2.atI xs i = some x := by
  have e : i = (i.toNat : Int) := by omega
  rw [e]
  exact atI_nat h
end
section
variable {β : Type} {kx : Exc → Mem → Out β} {res : Out β} {env : Env} {M : Mem} {k : AV → Mem → Out β}
def pickK (tab : FT) (x : AV) (q : (List AV → Mem → Out AV) → Out β) : Out β := match x with
  | .d (.fn n) => optK (tab.lookup n) q
  | _ => .bad
theorem e_callV {tab : FT} {f : SE} {l : SL} (h : el (f env M) (fun x M1 => pickK tab x fun F => el (l env M1) (fun avs M2 => el (F avs M2) k kx) kx) kx = res) : el (sCallV tab f l env M) k kx = res := by
  rw [← h]
  unfold sCallV
  rw [el_bind]
  congr
  funext x M1
  cases x with
  | d y =>
    cases y with
    | fn n =>
      show el (match tab.lookup n with | some F => (l env M1).bind fun avs M2 => F avs M2 | none => .bad) k kx = optK (tab.lookup n) _
      cases tab.lookup n with
      | none => rfl
      | some F => exact el_bind _ _ _ _
    | _ => rfl
  | _ => rfl
theorem pick_fn {tab : FT} {n : Str} {F : List AV → Mem → Out AV} {q : (List AV → Mem → Out AV) → Out β} (e : tab.lookup n = some F) (h : q F = res) : pickK tab (.d (.fn n)) q = res := by
  unfold pickK optK
  dsimp only
  rw [e]
  exact h
theorem e_rev {f : SE} (h : el (f env M) (fun x M1 => el (rev2Op x M1) k kx) kx = res) : el (sRev f env M) k kx = res := by rw [← h]; exact el_bind _ _ _ _
theorem p_revT {xs : List D} (h : k (.d (.tup xs.reverse)) M = res) : el (rev2Op (.d (.tup xs)) M) k kx = res := h
theorem p_lenS {xs : List D} {v : AV} (e : lstOf M v = some xs) (h : k (.d (.int xs.length)) M = res) : el (lenOp [v] M) k kx = res := by
  unfold lenOp
  dsimp only
  rw [e]
  exact h
theorem i_itm {op : Mem → List AV → Option Itm} {l : SL} {k : Itm → Mem → Out β} (h : el (l env M) (fun x M1 => optK (op M1 x) fun it => k it M1) kx = res) : el (sItm op l env M) k kx = res := by
  rw [← h]
  unfold sItm
  rw [el_bind]
  congr
  funext x M1
  cases op M1 x <;> rfl
end
/-- the size of the integer in a slot: a measure -/
def intAt (env : Env) (i : Nat) : Nat := match env[i]? with
  | some (some (AV.d (D.int y))) => y.natAbs
  | _ => 0
/-! ### a walk that folds -/
theorem for_fold {S : Type} {body : SS} {tg : Tg} {I : S → Env → Mem → Prop} (f : S → D → S) : ∀ (items : List D) (step : ∀ d ∈ items, ∀ s env M, I s env M → ∃ e env' M', tg.bind d env = some e ∧ body e M = .ok (.next env') M' ∧ I (f s d) env' M') (s : S) (env : Env) (M : Mem), I s env M →
    ∃ env' M', forL body tg [] items env M = .ok (.next env') M' ∧ I (items.foldl f s) env' M'
  | [], _, s, env, M, h => ⟨env, M, rfl, h⟩
  | d :: r, step, s, env, M, h => by
    obtain ⟨e, env1, M1, e1, e2, h1⟩ := step d List.mem_cons_self s env M h
    obtain ⟨env2, M2, e3, h2⟩ := for_fold f r (fun d hd => step d (.tail _ hd)) (f s d) env1 M1 h1
    refine ⟨env2, M2, ?_, h2⟩
    rw [forL, if_pos (by rfl), e1]
    dsimp only
    rw [e2, Out.bind_ok]
    exact e3
theorem e_fold {β S : Type} {kx : Exc → Mem → Out β} {res : Out β} {k : Fl → Mem → Out β} {body : SS} {tg : Tg} {items : List D} {env : Env} {M : Mem} (I : S → Env → Mem → Prop) (f : S → D → S) (s : S) (h0 : I s env M)
    (step : ∀ d ∈ items, ∀ s env M, I s env M → ∃ e env' M', tg.bind d env = some e ∧ body e M = .ok (.next env') M' ∧ I (f s d) env' M') (h : ∀ env' M', I (items.foldl f s) env' M' → k (.next env') M' = res) : el (forL body tg [] items env M) k kx = res := by
  obtain ⟨env', M', e, q⟩ := for_fold f items step s env M h0
  rw [e]
  exact h env' M' q
theorem r_c {M : Mem} {xs : List D} : endK M.length (.ret (.cell M.length)) (M ++ [some (.l xs)]) = .ok (.fr xs) M := by
  show finRet M.length (.cell M.length) (M ++ [some (.l xs)]) = _
  unfold finRet
  dsimp only
  rw [if_neg (Nat.lt_irrefl _), last_get]
  simp
theorem atI_head {α : Type} {x : α} {xs : List α} : L2.atI (x :: xs) 0 = some x := atI_nat (i := 0) rfl
theorem cutG_tail {α : Type} {x : α} {xs : List α} : cutG (x :: xs) (some 1) none = xs := by
  unfold cutG
  have e : HT.sIx (x :: xs).length 0 (some 1) = 1 := by
    show (if (1 : Int) < 0 then ((1 : Int) + ((x :: xs).length : Int)).toNat else min (1 : Int).toNat (x :: xs).length) = 1
    have h1 : ¬ ((1 : Int) < 0) := by decide
    rw [if_neg h1, List.length_cons]
    show min 1 (xs.length + 1) = 1
    omega
  rw [e]
  show ((x :: xs).drop 1).take ((x :: xs).length - 1) = xs
  simp
def lastI (s : List Int) : Int := s.getLast?.getD 0
theorem atI_last {s : List Int} (h : s ≠ []) : L2.atI (s.map D.int) (-1) = some (.int (lastI s)) := by
  have e : s = s.dropLast ++ [s.getLast h] := (List.dropLast_concat_getLast h).symm
  unfold lastI
  rw [List.getLast?_eq_getLast h]
  show _ = some (D.int (s.getLast h))
  conv => lhs; rw [e]
  rw [List.map_append]
  exact atI_neg1
/-- the same, the place told -/
theorem for_foldI {S : Type} {body : SS} {tg : Tg} {I : Nat → S → Env → Mem → Prop} (f : S → D → S) : ∀ (items : List D) (n : Nat) (step : ∀ i d, items[i]? = some d → ∀ s env M, I (n + i) s env M → ∃ e env' M', tg.bind d env = some e ∧ body e M = .ok (.next env') M' ∧ I (n + i + 1) (f s d) env' M') (s : S) (env : Env) (M : Mem), I n s env M →
    ∃ env' M', forL body tg [] items env M = .ok (.next env') M' ∧ I (n + items.length) (items.foldl f s) env' M'
  | [], n, _, s, env, M, h => ⟨env, M, rfl, h⟩
  | d :: r, n, step, s, env, M, h => by
    obtain ⟨e, env1, M1, e1, e2, h1⟩ := step 0 d rfl s env M h
    obtain ⟨env2, M2, e3, h2⟩ := for_foldI f r (n + 1) (fun i d hd s env M h => by
      have z : n + 1 + i = n + (i + 1) := by omega
      rw [z] at h ⊢
      exact step (i + 1) d hd s env M h) (f s d) env1 M1 h1
    refine ⟨env2, M2, ?_, by rw [List.length_cons, show n + (r.length + 1) = n + 1 + r.length by omega]; exact h2⟩
    rw [forL, if_pos (by rfl), e1]
    dsimp only
    rw [e2, Out.bind_ok]
    exact e3
theorem e_foldI {β S : Type} {kx : Exc → Mem → Out β} {res : Out β} {k : Fl → Mem → Out β} {body : SS} {tg : Tg} {items : List D} {env : Env} {M : Mem} (I : Nat → S → Env → Mem → Prop) (f : S → D → S) (s : S) (h0 : I 0 s env M)
    (step : ∀ i d, items[i]? = some d → ∀ s env M, I i s env M → ∃ e env' M', tg.bind d env = some e ∧ body e M = .ok (.next env') M' ∧ I (i + 1) (f s d) env' M') (h : ∀ env' M', I items.length (items.foldl f s) env' M' → k (.next env') M' = res) : el (forL body tg [] items env M) k kx = res := by
  obtain ⟨env', M', e, q⟩ := for_foldI (I := I) f items 0 (fun i d hd s env M h => by rw [Nat.zero_add] at h ⊢; exact step i d hd s env M h) s env M h0
  rw [e]
  exact h env' M' (by rw [Nat.zero_add] at q; exact q)
/-! ### tuples of integers -/
abbrev ti (c : List Int) : D := .tup (c.map .int)
theorem idx_head {x : Int} {r : List Int} {M : Mem} : idx (.d (ti (x :: r))) (.d (.int 0)) M = .ok (.d (.int x)) M := idx_tup (xs := D.int x :: r.map D.int) atI_head
theorem idx_ti {c : List Int} {i : Nat} {x : Int} {M : Mem} (h : c[i]? = some x) : idx (.d (ti c)) (.d (.int (i : Int))) M = .ok (.d (.int x)) M := idx_tup (atI_nat (by rw [List.getElem?_map, h]; rfl))
theorem cut_tail {β : Type} {kx : Exc → Mem → Out β} {res : Out β} {k : AV → Mem → Out β} {x : Int} {r : List Int} {M : Mem} (h : k (.d (ti r)) M = res) : el (cutop (.d (ti (x :: r))) (some 1) none M) k kx = res := by
  refine cut_T ?_
  show k (.d (.tup (cutG (D.int x :: r.map D.int) (some 1) none))) M = res
  rw [cutG_tail]
  exact h
theorem foldl_map {S : Type} (f : S → D → S) (r : List Int) : ∀ s : S, (r.map D.int).foldl f s = r.foldl (fun s b => f s (.int b)) s := by
  induction r with
  | nil => intro s; rfl
  | cons b r ih => intro s; exact ih _
end Mp

namespace Mp
open PySem L2 PySem.Spec PyProof.Rows

/-! ## loops over cells, unrolled loops, sums of rows -/
theorem for_dep {body : SS} {tg : Tg} {deps : List (Nat × List D)} {I : Env → Mem → Prop} (hI : ∀ env M, I env M → depsOk M deps = true) : ∀ (items : List D) (step : ∀ d ∈ items, ∀ env M, I env M → ∃ e env' M', tg.bind d env = some e ∧ body e M = .ok (.next env') M' ∧ I env' M') (env : Env) (M : Mem), I env M →
    ∃ env' M', forL body tg deps items env M = .ok (.next env') M' ∧ I env' M'
  | [], _, env, M, h => ⟨env, M, by rw [forL, if_pos (hI _ _ h)], h⟩
  | d :: r, step, env, M, h => by
    obtain ⟨e, env1, M1, e1, e2, h1⟩ := step d List.mem_cons_self env M h
    obtain ⟨env2, M2, e3, h2⟩ := for_dep hI r (fun d hd => step d (.tail _ hd)) env1 M1 h1
    refine ⟨env2, M2, ?_, h2⟩
    rw [forL, if_pos (hI _ _ h), e1]
    dsimp only
    rw [e2, Out.bind_ok]
    exact e3
theorem e_loopD {β : Type} {kx : Exc → Mem → Out β} {res : Out β} {k : Fl → Mem → Out β} {body : SS} {tg : Tg} {items : List D} {deps : List (Nat × List D)} {env : Env} {M : Mem} (I : Env → Mem → Prop) (hI : ∀ env M, I env M → depsOk M deps = true) (h0 : I env M)
    (step : ∀ d ∈ items, ∀ env M, I env M → ∃ e env' M', tg.bind d env = some e ∧ body e M = .ok (.next env') M' ∧ I env' M') (h : ∀ env' M', I env' M' → k (.next env') M' = res) : el (forL body tg deps items env M) k kx = res := by
  obtain ⟨env', M', e, q⟩ := for_dep hI items step env M h0
  rw [e]
  exact h env' M' q
section
variable {β : Type} {kx : Exc → Mem → Out β} {res : Out β} {k : Fl → Mem → Out β} {body : SS} {tg : Tg} {items : List D} {env : Env} {M : Mem}
def forK (fl : Fl) (M : Mem) (kn : Env → Mem → Out β) (k : Fl → Mem → Out β) : Out β := match fl with
  | .next e => kn e M
  | .cont e => kn e M
  | .brk e => k (.next e) M
  | .ret v => k (.ret v) M
theorem fk_n {e : Env} {kn : Env → Mem → Out β} (h : kn e M = res) : forK (.next e) M kn k = res := h
theorem fk_c {e : Env} {kn : Env → Mem → Out β} (h : kn e M = res) : forK (.cont e) M kn k = res := h
theorem fk_b {e : Env} {kn : Env → Mem → Out β} (h : k (.next e) M = res) : forK (.brk e) M kn k = res := h
theorem fk_r {v : AV} {kn : Env → Mem → Out β} (h : k (.ret v) M = res) : forK (.ret v) M kn k = res := h
theorem f_nil (e : items = []) (h : k (.next env) M = res) : el (forL body tg [] items env M) k kx = res := by
  subst e
  rw [forL, if_pos (by rfl)]
  exact h
theorem f_cons {d : D} {r : List D} {e : Env} (ei : items = d :: r) (eb : tg.bind d env = some e) (h : el (body e M) (fun fl M1 => forK fl M1 (fun e' M2 => el (forL body tg [] r e' M2) k kx) k) kx = res) : el (forL body tg [] items env M) k kx = res := by
  subst ei
  rw [← h, forL, if_pos (by rfl), eb]
  dsimp only
  rw [el_bind]
  congr
  funext fl M1
  cases fl <;> rfl
theorem f_items {items' : List D} (e : items = items') (h : el (forL body tg [] items' env M) k kx = res) : el (forL body tg [] items env M) k kx = res := by rw [e]; exact h
theorem e_stmt {s t : SS} {env' : Env} {M' : Mem} (e : s env M = .ok (.next env') M') (h : el (t env' M') k kx = res) : el (sSeq2 s t env M) k kx = res := by
  refine e_seq ?_
  rw [e]
  exact h
end
section
variable {M : Mem}
theorem add_tup {xs ys : List D} (h : xs.length + ys.length ≤ 1000000) : binop .Add (opnd M (.d (.tup xs))) (opnd M (.d (.tup ys))) M = .ok (.d (.tup (xs ++ ys))) M := by
  have hs : xs.length + ys.length ≤ sizeLine := Nat.le_trans h (by decide)
  show guard (decide (xs.length + ys.length ≤ sizeLine)) (Out.ok (AV.d (.tup (xs ++ ys))) M) = _
  unfold guard
  rw [if_pos (decide_eq_true hs)]
theorem add_lf {xs ys : List D} (h : xs.length + ys.length ≤ 1000000) : binop .Add (opnd M (.d (.lst xs))) (opnd M (.fr ys)) M = .ok (.fr (xs ++ ys)) M := by
  have hs : xs.length + ys.length ≤ sizeLine := Nat.le_trans h (by decide)
  show guard (decide (xs.length + ys.length ≤ sizeLine)) (Out.ok (AV.fr (xs ++ ys)) M) = _
  unfold guard
  rw [if_pos (decide_eq_true hs)]
theorem add_cf {c : Nat} {xs ys : List D} (e : M[c]? = some (some (.l xs))) (h : xs.length + ys.length ≤ 1000000) : binop .Add (opnd M (.cell c)) (opnd M (.fr ys)) M = .ok (.fr (xs ++ ys)) M := by
  have e1 : opnd M (.cell c) = .d (.lst xs) := by
    unfold opnd lstOf
    dsimp only
    rw [e]
  rw [e1]
  exact add_lf h
theorem lst_tup {xs : List D} : listOp [.d (.tup xs)] M = .ok (.fr xs) M := rfl
end
theorem cutG_map {α β : Type} (f : α → β) (xs : List α) (i j : Option Int) : cutG (xs.map f) i j = (cutG xs i j).map f := by
  unfold cutG
  rw [List.length_map, ← List.map_drop, ← List.map_take]
theorem cutG_le {α : Type} (xs : List α) (i j : Option Int) : (cutG xs i j).length ≤ xs.length := by
  unfold cutG
  rw [List.length_take, List.length_drop]
  omega
section
variable {X : Cx} {E : WX} {elt tgE iter : Expr} {ifs : List Expr} {fi : SI} {t : Tg} {cond : SB} {fe : SE} {scope : Scope} {own : List (Str × Nat)} {pos : Pos}
theorem gs_asgLc {i : Nat} {x : Str} {m : Bool} {py spos : Pos} (hc : X.calm = true) (hN : X.N.Nodup) (hy : X.N[i]? = some x) (hyl : X.env.scope.names.lookup x = some .local)
    (hsw : swapsWith (.ListComp elt [⟨tgE, iter, ifs, 0⟩] scope pos) (some (.Name x py)) spos.line X.env = pure true) (hi : GI X E tgE iter fi) (ok : BlkOk X.N X.env.scope scope own)
    (hg : ∀ (s : Shared) (H : Hp) (C : Addr) (cl : List (Str × Addr)) (fp : List Addr), PG (X.blk s H scope (compEnvC scope cl C X.env) fp) tgE (rdT (gm X) t))
    (ht : ∀ (s : Shared) (H : Hp) (C : Addr) (cl : List (Str × Addr)) (fp : List Addr), PTs (X.blk s H scope (compEnvC scope cl C X.env) fp) ifs (rdB (gm X) cond FW))
    (he : ∀ (s : Shared) (H : Hp) (C : Addr) (cl : List (Str × Addr)) (fp : List Addr), GE (X.blk s H scope (compEnvC scope cl C X.env) fp) FW elt fe)
    (hs : ∀ x, foldedSetIterable iter X.env x = pure x) (hsl : ∀ j ∈ t.slots, j ∈ own.map (·.2)) : GS X E (.Assign [.Name x py] (.ListComp elt [⟨tgE, iter, ifs, 0⟩] scope pos) spos) (sAsg i m (sComp fi t cond fe (own.map (·.2)))) :=
  PS.imp (ps_setLc hc hN hy hyl hsw hi ok hg ht he hs) fun D σ H h => by
    have z : tAsg (rdE (gm X) (sComp fi t cond fe (own.map (·.2))) E) (gName i) D σ H := asg_read (m := m) D σ H h
    exact lc_read hsl σ H _ z
end
section
variable {β : Type} {kx : Exc → Mem → Out β} {res : Out β} {env : Env} {M : Mem}
theorem e_aug {k : Fl → Mem → Out β} {i : Nat} {op : Operator} {f : SE} {x : AV} (e : env[i]? = some (some x)) (h : el (f env M) (fun y M1 => el (inop op x y M1) (fun z M2 => k (.next (env.set i (some z))) M2) kx) kx = res) : el (sAug i op f env M) k kx = res := by
  rw [← h]
  unfold sAug
  rw [e]
  dsimp only
  rw [el_bind]
  congr
  funext y M1
  rw [el_bind]
  rfl
theorem p_iadd {k : AV → Mem → Out β} {i j : Int} (h : k (.d (.int (i + j))) M = res) : el (inop .Add (.d (.int i)) (.d (.int j)) M) k kx = res := h
theorem m_ext {k : AV → Mem → Out β} {c : Nat} {xs ys : List D} (e : M[c]? = some (some (.l xs))) (hl : xs.length + ys.length ≤ 1000000) (h : k (.d .non) (M.set c (some (.l (xs ++ ys)))) = res) : mK mExtend (.cell c) [.d (.lst ys)] M k = res := by
  have e1 : cellOf? M (.cell c) = some (c, xs) := by unfold cellOf?; dsimp only; rw [e]
  unfold mK
  rw [e1]
  have hs : xs.length + ys.length ≤ sizeLine := Nat.le_trans hl (by decide)
  have e2 : mExtend xs [.d (.lst ys)] M = some (.non, xs ++ ys, M) := by
    unfold mExtend lstOf
    dsimp only
    rw [if_pos hs]
  dsimp only
  rw [e2]
  dsimp only
  rw [e1]
  exact h
theorem m_extL {k : AV → Mem → Out β} {xs ys : List D} (hl : xs.length + ys.length ≤ 1000000) (h : k (.d .non) (M ++ [some (.l (xs ++ ys))]) = res) : mK mExtend (.cell M.length) [.d (.lst ys)] (M ++ [some (.l xs)]) k = res :=
  m_ext last_get hl (by rw [last_set]; exact h)
theorem mul_l1 {x : D} {j : Int} (h0 : 0 ≤ j) (h1 : j ≤ 1000000) : binop .Mult (opnd M (.fr [x])) (opnd M (.d (.int j))) M = .ok (.fr (List.replicate j.toNat x)) M := by
  have hs : ([x] : List D).length * j.toNat ≤ sizeLine := by
    rw [List.length_singleton, Nat.one_mul]
    exact Nat.le_trans (show j.toNat ≤ 1000000 by omega) (by decide)
  show guard (decide (-(2 ^ 63) ≤ j ∧ j < 2 ^ 63 ∧ ([x] : List D).length * j.toNat ≤ sizeLine)) (Out.ok (AV.fr (List.replicate j.toNat [x]).flatten) M) = _
  unfold guard
  rw [if_pos (decide_eq_true ⟨by omega, by omega, hs⟩)]
  have e : (List.replicate j.toNat [x]).flatten = List.replicate j.toNat x := by
    generalize j.toNat = n
    induction n with
    | zero => rfl
    | succ n ih => rw [List.replicate_succ, List.flatten_cons, ih]; rfl
  rw [e]
theorem mul_t1 {x : D} {j : Int} (h0 : -1000 ≤ j) (h1 : j ≤ 1000) : binop .Mult (opnd M (.d (.tup [x]))) (opnd M (.d (.int j))) M = .ok (.d (.tup (List.replicate j.toNat x))) M := by
  show guard (decide ([x] ≠ [] ∧ -1000 ≤ j ∧ j ≤ 1000 ∧ ([x] : List D).length ≤ 1000)) (Out.ok (AV.d (.tup (List.replicate j.toNat [x]).flatten)) M) = _
  unfold guard
  rw [if_pos (decide_eq_true ⟨by simp, by omega, by omega, by simp⟩)]
  have e : (List.replicate j.toNat [x]).flatten = List.replicate j.toNat x := by
    generalize j.toNat = n
    induction n with
    | zero => rfl
    | succ n ih => rw [List.replicate_succ, List.flatten_cons, ih]; rfl
  rw [e]
end
end Mp

namespace Mp
open PySem L2 PySem.Spec PyProof.Rows

/-! ## sorted(xs), xs a list of ints or of tuples of ints -/
theorem each_vals {bs : List (V × PyData)} : ∀ {us : List Value}, Vals (bs.map (·.1)) us → PySem.W.EachIs (fun v (b : V × PyData) => RelV b.1 v) us bs := by
  induction bs with
  | nil => intro us h; cases h; exact .nil
  | cons b bs ih =>
    intro us h
    cases h with
    | cons r t => exact .cons r (ih t)
theorem vals_each {bs : List (V × PyData)} : ∀ {us : List Value}, PySem.W.EachIs (fun v (b : V × PyData) => RelV b.1 v) us bs → Vals (bs.map (·.1)) us := by
  induction bs with
  | nil => intro us h; cases h; exact .nil
  | cons b bs ih =>
    intro us h
    cases h with
    | cons r t => exact .cons r (ih t)
theorem each_imp {α β : Type} {R S : α → β → Prop} : ∀ {us : List α} {bs : List β}, PySem.W.EachIs R us bs → (∀ u, ∀ b ∈ bs, R u b → S u b) → PySem.W.EachIs S us bs
  | _, _, .nil, _ => .nil
  | _, _, .cons r t, h => .cons (h _ _ List.mem_cons_self r) (each_imp t fun u b hb => h u b (.tail _ hb))
def rSortedDt (K : PySem.W.Frag) : List V → Hp → VK → Prop := fun vs H Q => ∃ (a : Addr) (bs : List (V × PyData)), vs = [V.ref a] ∧ SqL K H a (bs.map (·.1)) ∧ (∀ b ∈ bs, Dp K H b.1 b.2 ∧ b.2.depth ≤ 60) ∧ PySem.W.AllAlike (bs.map (·.2)) ∧ PySem.W.Sortable (bs.map (·.2)) ∧
  ∀ p : Addr, H p = none → Q (.ref p) (upd H p (.lst ((bs.mergeSort (PySem.W.dataLe false (·.2))).map (·.1))))
theorem cr_sortedDt {X : Cx} (hu : X.A.units + 64 < cLine) : CallR X (.builtin "sorted") (rSortedDt X.K) := by
  intro pins s σ H vs us Q I r h
  obtain ⟨a, bs, rfl, hs, hx, hal, hk, q⟩ := h
  obtain ⟨its, rv, hl, hz⟩ := I.list hs
  rw [Vals.ref1 r]
  have e := each_vals rv
  have er : PySem.W.EachIs (fun v (b : V × PyData) => ∃ as, Reads s.heap v b.2 as) its bs := each_imp e fun u b hb r => Dp.reads I b.2 b.1 u (hx b hb).1 r
  have hz' : bs.length ≤ sizeLine := by rw [List.length_map] at hz; exact hz
  refine PySem.W.sorted_data (enc := fun b : V × PyData => b.2) hl.isList e er hal hk hz' (fun b hb => ?_) fun out ho hE => ?_
  · have := (hx b hb).2
    show X.A.units + 2 + b.2.depth < cLine
    omega
  · obtain ⟨ep, he'⟩ := PyProof.Rows.sortedAll_at s.heap its out.toArray
    have hlen : ((bs.mergeSort (PySem.W.dataLe false (·.2))).map (·.1)).length ≤ sizeLine := by
      rw [List.length_map, List.length_mergeSort]
      exact hz'
    exact ⟨.ref _, upd H (s.heap.objs.size + 1) (.lst ((bs.mergeSort (PySem.W.dataLe false (·.2))).map (·.1))), I.laid (t' := s.toks) (fun _ _ => PyProof.Rows.sortedAll_old) (Nat.le_succ _) ⟨hlen, out, ep, vals_each hE, he'⟩, rfl, q _ (I.hok.fresh (Nat.le_succ _))⟩

def tupI? : D → Option (List Int)
  | .tup xs => ints? xs
  | _ => none
def tupsI? : List D → Option (List (List Int))
  | [] => some []
  | d :: r => match tupI? d, tupsI? r with
    | some a, some l => some (a :: l)
    | _, _ => none
theorem tupsI_ok : ∀ {ds : List D} {L : List (List Int)}, tupsI? ds = some L → ds = L.map ti
  | [], L, h => by cases h; rfl
  | d :: r, L, h => by
    unfold tupsI? at h
    cases e1 : tupI? d with
    | none => rw [e1] at h; cases h
    | some a =>
      cases e2 : tupsI? r with
      | none => rw [e1, e2] at h; cases h
      | some l =>
        rw [e1, e2] at h
        cases h
        rw [List.map_cons, ← tupsI_ok e2]
        congr 1
        cases d with
        | tup xs =>
          have e1 : ints? xs = some a := e1
          rw [ints_ok e1]
        | _ => cases e1
def leI (a b : List Int) : Bool := decide (a ≤ b)
def sorted2Op : List AV → Mem → Out AV
  | [a], M => match (lstOf M a).bind ints? with
    | some ns => .ok (.fr ((sortI ns).map D.int)) M
    | none => match (lstOf M a).bind tupsI? with
      | some L => if (L.all fun c => !c.isEmpty) = true then .ok (.fr ((L.mergeSort leI).map ti)) M else .bad
      | none => .bad
  | _, _ => .bad
theorem dataLe_ti {β : Type} (x : β → List Int) : PySem.W.dataLe false (fun b => PyData.tuple ((x b).map .int)) = fun p q => leI (x p) (x q) := PySem.W.dataLe_rows x
theorem py_ti (c : List Int) : (ti c).py = .tuple (c.map .int) := by
  have e : ∀ c : List Int, D.pys (c.map D.int) = c.map .int := by
    intro c
    induction c with
    | nil => rfl
    | cons a r ih =>
      show PyData.int a :: D.pys (r.map D.int) = _
      rw [ih]
      rfl
  show PyData.tuple (D.pys (c.map D.int)) = _
  rw [e]
theorem flat_ti (c : List Int) : (ti c).flat = true := by
  show D.flats (c.map D.int) = true
  induction c with
  | nil => rfl
  | cons a r ih => exact ih
theorem zip_rds {G : Gm} {B : Addr → Prop} {H : Hp} : ∀ {L : List (List Int)} {vs : List V}, RDs G B H (L.map ti) vs → ∃ zs : List (V × List Int), zs.map (·.1) = vs ∧ zs.map (·.2) = L ∧ ∀ z ∈ zs, RD G B H (ti z.2) z.1
  | [], _, h => by cases h; exact ⟨[], rfl, rfl, fun _ h => (nomatch h)⟩
  | c :: L, _, h => by
    cases h with
    | @cons _ _ v vs h1 h2 =>
      obtain ⟨zs, e1, e2, e3⟩ := zip_rds h2
      refine ⟨(v, c) :: zs, by rw [List.map_cons, e1], by rw [List.map_cons, e2], fun z hz => ?_⟩
      rcases List.mem_cons.mp hz with rfl | hz
      · exact h1
      · exact e3 z hz
theorem rds_zip {G : Gm} {B : Addr → Prop} {H : Hp} : ∀ {zs : List (V × List Int)}, (∀ z ∈ zs, RD G B H (ti z.2) z.1) → RDs G B H ((zs.map (·.2)).map ti) (zs.map (·.1))
  | [], _ => .nil
  | z :: zs, h => .cons (h z List.mem_cons_self) (rds_zip fun y hy => h y (.tail _ hy))
section
variable {G : Gm} {W Z B : Addr → Prop} {φ : List Addr} {H : Hp} {M : Mem} {Q : VK} {E : XK} {avs : List AV} {vs : List V}
theorem sorted2_run (R : Rel G W Z φ M H) (r : SRs G (Bar W Z) φ H avs vs) (h : Run G Z φ W H (sorted2Op avs M) Q E) : rSortedI G.K vs H Q ∨ rSortedDt G.K vs H Q := by
  unfold sorted2Op at h
  split at h
  · rename_i a
    obtain ⟨v, rfl, r1⟩ := r.one
    split at h
    · rename_i ns e
      left
      obtain ⟨p, rfl, h1⟩ := R.ints r1 e
      refine ⟨p, ns, rfl, h1, fun ms l hp hs hl => ?_⟩
      have e : ms = sortI ns := sorted_unique (hp.trans (sortI_perm ns).symm) hs (sortI_sorted ns)
      subst e
      exact Run.new R h (RDs.of_ints _) l hl
    · right
      split at h
      · rename_i L e
        split at h
        · rename_i hne
          obtain ⟨xs, e1, e2⟩ := Option.bind_eq_some_iff.mp e
          have e3 := tupsI_ok e2
          subst e3
          obtain ⟨p, us, rfl, hq, hr, _⟩ := R.lst r1 e1
          obtain ⟨zs, z1, z2, z3⟩ := zip_rds hr
          have hpy : (zs.map fun z : V × List Int => (z.1, PyData.tuple (z.2.map .int))).map (·.1) = us := by rw [List.map_map]; exact z1
          refine ⟨p, zs.map fun z => (z.1, .tuple (z.2.map .int)), rfl, by rw [hpy]; exact hq, fun b hb => ?_, ?_, ?_, fun l hl => ?_⟩
          · obtain ⟨z, hz, rfl⟩ := List.mem_map.mp hb
            refine ⟨?_, ?_⟩
            · have := RD.dp (z3 z hz) (flat_ti z.2)
              rw [py_ti] at this
              exact this
            · show PyData.depthAll (z.2.map .int) + 1 ≤ 60
              rw [PySem.W.depth_ints]
              decide
          · rw [List.map_map]
            refine PySem.W.AllAlike.of fun a b => ?_
            show PySem.W.alikeAll (a.2.map .int) (b.2.map .int) = true
            exact PySem.W.alike_ints _ _
          · left
            intro d hd
            rw [List.map_map] at hd
            obtain ⟨z, hz, rfl⟩ := List.mem_map.mp hd
            have hz2 : z.2 ∈ L := by rw [← z2]; exact List.mem_map.mpr ⟨z, hz, rfl⟩
            have := List.all_eq_true.mp hne z.2 hz2
            cases e : z.2 with
            | nil => rw [e] at this; cases this
            | cons x c => exact ⟨.int x, c.map .int, by show PyData.tuple (z.2.map .int) = _; rw [e]; rfl⟩
          · have em : ((zs.map fun z : V × List Int => (z.1, PyData.tuple (z.2.map .int))).mergeSort (PySem.W.dataLe false (·.2))).map (·.1) = (zs.mergeSort fun a b => leI a.2 b.2).map (·.1) := by
              rw [← List.map_mergeSort (r := fun a b : V × List Int => leI a.2 b.2) (fun a _ b _ => ?_), List.map_map]
              · rfl
              · show leI a.2 b.2 = PySem.W.dataLe false (fun z : V × List Int => PyData.tuple (z.2.map .int)) a b
                rw [dataLe_ti]
            rw [em]
            have el : (L.mergeSort leI).map ti = ((zs.mergeSort fun a b => leI a.2 b.2).map (·.2)).map ti := by
              rw [List.map_mergeSort (s := leI) (fun a _ b _ => rfl), z2]
            rw [el] at h
            exact Run.new R h (rds_zip fun z hz => z3 z (List.mem_mergeSort.mp hz)) l hl
        · exact h.elim
      · exact h.elim
  · exact h.elim
end
section
variable {X : Cx} {E : WX} {e : Expr} {es : List Expr} {l : SL} {pos p : Pos}
theorem gc_sorted2 (hu : X.A.units + 65 < cLine) (hc : X.calm = true) (hl : GL X E (e :: es) l) (he : starEach (e :: es) X.env = (false, eval e X.env) :: starEach es X.env) (hpl : (backTo pos (starEach es X.env)).any (·.1) = false) (hg : Gl X "sorted") (hm : X.mg "sorted" = none) : GE X E (.Call (.Name "sorted" p) (e :: es) [] pos) (sArgs sorted2Op l) :=
  ge_bi (fun h => pe_callB (cr_sortedI.or (cr_sortedDt (by omega))) hg hm boot_sorted h (he := he) (hpl := hpl)) hl fun W Z φ M H avs vs Q E R r h => sorted2_run R r h
end
section
variable {α β : Type} {kx : Exc → Mem → Out β} {res : Out β}
theorem g_el {r : Out α} {k : α → Mem → Out β} (h : el r k kx = res) : el r k kx = res := h
theorem g_fl {r : Out Fl} {k : Fl → Mem → Out β} (h : el r k kx = res) : el r k kx = res := h
theorem g_av {r : Out AV} {k : AV → Mem → Out β} (h : el r k kx = res) : el r k kx = res := h
theorem g_ls {r : Out (List AV)} {k : List AV → Mem → Out β} (h : el r k kx = res) : el r k kx = res := h
theorem g_bl {r : Out Bool} {k : Bool → Mem → Out β} (h : el r k kx = res) : el r k kx = res := h
theorem g_opt {o : Option α} {k : α → Out β} (h : optK o k = res) : optK o k = res := h
theorem g_cond {b : Bool} {r r' : Out β} (h : cond b r r' = res) : cond b r r' = res := h
theorem g_fk {fl : Fl} {M : Mem} {kn : Env → Mem → Out β} {k : Fl → Mem → Out β} (h : flK fl M kn k = res) : flK fl M kn k = res := h
theorem g_st {x : AV} {k : AV → Out β} (h : stK x k = res) : stK x k = res := h
theorem g_asg {i : Nat} {m : Bool} {x : AV} {env : Env} {M : Mem} {k : Fl → Mem → Out β} (h : asgK i m x env M k = res) : asgK i m x env M k = res := h
theorem g_asp {i : Nat} {m : Bool} {x : AV} {env : Env} {M : Mem} {k : Env → Mem → Out β} (h : asgP i m x env M k = res) : asgP i m x env M k = res := h
theorem g_bin {op : Operator} {x y : AV} {M : Mem} {k : AV → Mem → Out β} (h : el (binop op x y M) k kx = res) : el (binop op x y M) k kx = res := h
theorem g_cmp {op : CmpOp} {x y : AV} {M : Mem} {k : AV → Mem → Out β} (h : el (cmpop op x y M) k kx = res) : el (cmpop op x y M) k kx = res := h
end
end Mp

namespace Mp
open PySem L2 PySem.Spec PyProof.Rows

/-! ## laws whose code raises Malformed alone -/
def ctM1 : Str → Str → Option Bool := fun e h => if e = "Malformed" then (if h = "Malformed" then some true else none) else none
structure ErrsM (K : PySem.W.Frag) (mg : Str → Option Value) (CM : Addr) : Prop where
  gM : mg "Malformed" = some (.ref CM)
  xM : PySem.W.excIn K CM [.type "ValueError", .type "Exception", .type "BaseException", .type "object"] "ValueError.__new__" = true
  kM : PySem.W.keepIn K (.ref CM) = true
  bM : PySem.W.subIn K (.ref CM) (.type "BaseException") = some true
  tM : PySem.W.typeIn K (.ref CM) = some (.type "type")
  iM : PySem.W.isClsIn K CM = true
  sMM : PySem.W.subIn K (.ref CM) (.ref CM) = some true
section
variable {X : Cx} {E : WX} {CM : Addr} {j k : Nat} {m : Str} {p p2 pos pos2 : Pos}
theorem ErrsM.ctM (T : ErrsM X.K X.mg CM) : CtOk X ctM1 "Malformed" (.ref CM) := fun ec b h C hC => by
  unfold ctM1 at h
  split at h
  · rename_i e
    subst e
    rw [if_pos rfl] at h
    cases h
    have := T.gM.symm.trans hC
    cases this
    exact exm_of T.bM T.iM T.tM T.sMM
  · cases h
theorem gs_rMM (T : ErrsM X.K X.mg CM) (hc : X.calm = true) (tk : Takes X E) (hg : Gl X "Malformed") : GS X E (.Raise (some (.Call (.Name "Malformed" p) [.Constant (.str m) j p2] [] pos)) none pos2) (sRaise "Malformed" []) :=
  gs_raiseM hc tk T.xM T.gM T.kM (raises_own T.bM T.tM) hg (by decide)
end
/-! ## lists that are popped; two cells that were made last -/
section
variable {β : Type} {kx : Exc → Mem → Out β} {res : Out β} {env : Env} {M : Mem}
theorem m_pop {k : AV → Mem → Out β} {c : Nat} {xs : List D} {x : D} (e : M[c]? = some (some (.l (xs ++ [x])))) (h : k (.d x) (M.set c (some (.l xs))) = res) : mK mPop (.cell c) [] M k = res := by
  have e1 : cellOf? M (.cell c) = some (c, xs ++ [x]) := by unfold cellOf?; dsimp only; rw [e]
  unfold mK
  rw [e1]
  have e2 : mPop (xs ++ [x]) [] M = some (x, xs, M) := by
    unfold mPop
    simp
  dsimp only
  rw [e2]
  dsimp only
  rw [e1]
  exact h
end
abbrev M2 (M : Mem) (F S : List D) : Mem := M ++ [some (.l F), some (.l S)]
section
variable {M : Mem} {F S T : List D}
theorem m2_0 : (M2 M F S)[M.length]? = some (some (.l F)) := by simp
theorem m2_1 : (M2 M F S)[M.length + 1]? = some (some (.l S)) := by simp
theorem m2_s0 : (M2 M F S).set M.length (some (.l T)) = M2 M T S := by simp
theorem m2_s1 : (M2 M F S).set (M.length + 1) (some (.l T)) = M2 M F T := by simp [List.set_append_right]
variable {β : Type} {res : Out β} {k : AV → Mem → Out β} {x : D}
theorem m2_app0 (hl : F.length < 1000000) (h : k (.d .non) (M2 M (F ++ [x]) S) = res) : mK mAppend (.cell M.length) [.d x] (M2 M F S) k = res :=
  m_app m2_0 hl (by rw [m2_s0]; exact h)
theorem m2_app1 (hl : S.length < 1000000) (h : k (.d .non) (M2 M F (S ++ [x])) = res) : mK mAppend (.cell (M.length + 1)) [.d x] (M2 M F S) k = res :=
  m_app m2_1 hl (by rw [m2_s1]; exact h)
theorem m2_pop1 (h : k (.d x) (M2 M F S) = res) : mK mPop (.cell (M.length + 1)) [] (M2 M F (S ++ [x])) k = res :=
  m_pop m2_1 (by rw [m2_s1]; exact h)
theorem m2_gk0 : (cellOf? (M2 M F S) (.cell M.length)).isSome = true := by unfold cellOf?; dsimp only; rw [m2_0]; rfl
theorem m2_gk1 : (cellOf? (M2 M F S) (.cell (M.length + 1))).isSome = true := by unfold cellOf?; dsimp only; rw [m2_1]; rfl
theorem m2_len1 : lenOp [.cell (M.length + 1)] (M2 M F S) = .ok (.d (.int S.length)) (M2 M F S) := by
  unfold lenOp
  simp [lstOf]
theorem m2_new : M ++ [some (MC.l F)] ++ [some (MC.l S)] = M2 M F S := by simp
theorem m2_nl : (M ++ [some (MC.l F)]).length = M.length + 1 := by simp
end
end Mp

namespace Mp
open PySem L2 PySem.Spec PyProof.Rows

/-! ## dicts whose keys are tuples of ints, or ints: cells of their own -/
section
variable {G : Gm} {W Z : Addr → Prop} {φ : List Addr} {H : Hp} {M : Mem}
/-- a new object becomes a cell -/
theorem Rel.newCell (R : Rel G W Z φ M H) {p : Addr} {o : HO} {c : MC} (hp : H p = none) (hc : CellR G (Bar (add1 W p) Z) (upd H p o) p c) :
    Rel G (add1 W p) Z (φ ++ [p]) (M ++ [some c]) (upd H p o) ∧ Ext W H (add1 W p) (upd H p o) := by
  have R2 := R.laid (o := o) hp
  have x0 := Ext.laid R (o := o) hp
  have nb : ¬ Bar W Z p := fun z => z.elim (fun z => R.wt p z hp) fun z => R.zt p z hp
  have hnp : ∀ i : Nat, φ[i]? ≠ some p := fun i e => (R2.sep i p e).2 (.inr rfl)
  have hb : ∀ a, Bar (add1 W p) Z a → Bar W (add1 Z p) a := fun a z => by
    rcases z with (z | z) | z
    · exact .inl z
    · exact .inr (.inr z)
    · exact .inr (.inl z)
  refine ⟨⟨by simp [R.len], ?_, fun a z => z.elim (R2.wt a) fun z => by subst z; rw [upd_same]; simp, fun a z => R2.zt a (.inl z), fun i q e => ?_, fun i q c e1 e2 => ?_⟩, fun a u e n => ⟨(x0.keep a u e n).1, fun z => z.elim n fun z => by subst z; rw [hp] at e; cases e⟩, x0.live⟩
  · rw [List.nodup_append]
    refine ⟨R.nd, by simp, fun a ha b hb e => ?_⟩
    obtain ⟨i, hi⟩ := List.getElem?_of_mem ha
    simp at hb
    subst hb; subst e
    exact hnp i hi
  · by_cases hi : i < φ.length
    · rw [List.getElem?_append_left hi] at e
      exact ⟨(R2.sep i q e).1, fun z => (R2.sep i q e).2 (.inl z)⟩
    · rw [List.getElem?_append_right (by omega)] at e
      have hq : q = p := by
        cases h : i - φ.length with
        | zero => rw [h] at e; simpa using e.symm
        | succ k => rw [h] at e; simp at e
      subst hq
      exact ⟨by rw [upd_same]; simp, fun z => nb (.inr z)⟩
  · by_cases hi : i < φ.length
    · rw [List.getElem?_append_left hi] at e1
      rw [List.getElem?_append_left (by rw [← R.len]; exact hi)] at e2
      obtain ⟨w, r⟩ := R2.cell i q c e1 e2
      exact ⟨.inl w, r.ext (Ext.less hb) rfl⟩
    · rw [List.getElem?_append_right (by omega)] at e1
      rw [List.getElem?_append_right (by rw [← R.len]; omega), ← R.len] at e2
      cases h : i - φ.length with
      | zero =>
        rw [h] at e1 e2
        simp at e1 e2
        subst e1; subst e2
        exact ⟨.inr rfl, hc⟩
      | succ k => rw [h] at e1; simp at e1
/-- a cell's object is changed -/
theorem Rel.putCell (R : Rel G W Z φ M H) {i : Nat} {p : Addr} {c c2 : MC} {o : HO} (e : φ[i]? = some p) (e2 : M[i]? = some (some c)) (hc : Ext W H W (upd H p o) → CellR G (Bar W Z) (upd H p o) p c2) :
    Rel G W Z φ (M.set i (some c2)) (upd H p o) ∧ Ext W H W (upd H p o) := by
  obtain ⟨wp, _⟩ := R.cell i p c e e2
  have lv : ∀ a, H a ≠ none → upd H p o a ≠ none := fun a h => by
    by_cases z : a = p
    · rw [z, upd_same]; simp
    · rw [upd_ne z]; exact h
  have x : Ext W H W (upd H p o) := ⟨fun a u h n => ⟨by rw [upd_ne fun z => n (by rw [z]; exact wp)]; exact h, n⟩, lv⟩
  have hi : i < M.length := (List.getElem?_eq_some_iff.mp e2).1
  refine ⟨⟨by rw [List.length_set]; exact R.len, R.nd, fun a w => lv a (R.wt a w), fun a z => lv a (R.zt a z), fun j q e3 => ⟨lv q (R.sep j q e3).1, (R.sep j q e3).2⟩, fun j q c' e3 e4 => ?_⟩, x⟩
  by_cases hj : j = i
  · subst hj
    rw [List.getElem?_set_self hi] at e4
    cases e4
    rw [e] at e3; cases e3
    exact ⟨wp, hc x⟩
  · rw [List.getElem?_set_ne (Ne.symm hj)] at e4
    obtain ⟨w, r⟩ := R.cell j q c' e3 e4
    have hq : q ≠ p := fun z => by
      subst z
      obtain ⟨l1, g1⟩ := List.getElem?_eq_some_iff.mp e3
      obtain ⟨l2, g2⟩ := List.getElem?_eq_some_iff.mp e
      exact hj ((List.getElem_inj R.nd).mp (g1.trans g2.symm))
    exact ⟨w, r.ext x.bar (upd_ne hq)⟩
end
/-! ### a dict is made -/
def sNewD (i : Nat) (c : MC) : SS := fun env M => .ok (.next (env.set i (some (.cell M.length)))) (M ++ [some c])
section
variable {X : Cx} {E : WX} {a b o e v : Expr} {f g fo fi fv : SE} {pos p2 tpos : Pos}
theorem gs_newT {i : Nat} {x : Str} {pos' : Pos} (hN : X.N.Nodup) (hi : X.N[i]? = some x) (hx : Loc X.env.scope x) (hs : swapsWith (.Dict [] [] p2) (some (.Name x pos')) pos.line X.env = pure false) (hf : X.fn x = true ∨ X.env.scope.names.lookup x = some .local) :
    GS X E (.Assign [.Name x pos'] (.Dict [] [] p2) pos) (sNewD i (.t [])) :=
  PS.imp (ps_set hN hi hx pe_dnewT hs hf) fun D σ H ⟨W, Z, φ, env, M, R, Er, h⟩ => fun p hp => by
    obtain ⟨R2, x⟩ := R.newCell (o := .dT []) (c := .t []) hp ⟨[], upd_same, .nil⟩
    refine h (add1 W p) [p] _ _ ⟨R2, x, fun q hq => by simp at hq; subst hq; exact hp⟩ ?_ (by simp)
    exact ((Er.ext x.bar).app [p]).set (av := .cell M.length) ⟨p, by rw [← R.len]; simp, rfl⟩ i
theorem gs_newK {i : Nat} {x : Str} {pos' : Pos} (hN : X.N.Nodup) (hi : X.N[i]? = some x) (hx : Loc X.env.scope x) (hs : swapsWith (.Dict [] [] p2) (some (.Name x pos')) pos.line X.env = pure false) (hf : X.fn x = true ∨ X.env.scope.names.lookup x = some .local) :
    GS X E (.Assign [.Name x pos'] (.Dict [] [] p2) pos) (sNewD i (.k [])) :=
  PS.imp (ps_set hN hi hx pe_dnewK hs hf) fun D σ H ⟨W, Z, φ, env, M, R, Er, h⟩ => fun p hp => by
    obtain ⟨R2, x⟩ := R.newCell (o := .dK []) (c := .k []) hp ⟨[], upd_same, .nil⟩
    refine h (add1 W p) [p] _ _ ⟨R2, x, fun q hq => by simp at hq; subst hq; exact hp⟩ ?_ (by simp)
    exact ((Er.ext x.bar).app [p]).set (av := .cell M.length) ⟨p, by rw [← R.len]; simp, rfl⟩ i
end
/-! ### key in dict -/
def ksOf : D → Option (List Int)
  | .tup xs => if ktOn = true then none else ints? xs
  | _ => none
def hasK {κ : Type} [DecidableEq κ] (kvs : List (κ × D)) (k : κ) : Bool := kvs.any fun e => decide (e.1 = k)
def dIn (x y : AV) (M : Mem) : Option Bool := match x, y with
  | .d d, .cell c => match M[c]? with
    | some (some (.t kvs)) => (ksOf d).map (hasK kvs)
    | some (some (.k kvs)) => match d with
      | .int i => some (hasK kvs i)
      | _ => none
    | _ => none
  | _, _ => none
def inDOp (neg : Bool) (x y : AV) (M : Mem) : Out AV := match dIn x y M with
  | some b => .ok (.d (.bl (neg != b))) M
  | none => .bad
def sInD (neg : Bool) (f g : SE) : SE := sTwo (inDOp neg) f g
theorem inl_inj : ∀ {a b : List Int}, a.map (Sum.inl : Int → Key) = b.map Sum.inl → a = b
  | [], [], _ => rfl
  | [], _ :: _, h => by cases h
  | _ :: _, [], h => by cases h
  | x :: a, y :: b, h => by
    rw [List.map_cons, List.map_cons, List.cons.injEq, Sum.inl.injEq] at h
    rw [h.1, inl_inj h.2]
theorem any_zip {κ κ' : Type} [DecidableEq κ] [DecidableEq κ'] {fk : κ → κ'} (hf : ∀ {a b}, fk a = fk b → a = b) (k : κ) : ∀ (kvs : List (κ × D)) (us : List V), kvs.length = us.length → ((List.zip (kvs.map fun e => fk e.1) us).any fun kv => decide (kv.1 = fk k)) = hasK kvs k
  | [], _, _ => rfl
  | e :: kvs, [], h => by cases h
  | e :: kvs, u :: us, h => by
    have ih := any_zip hf k kvs us (by simpa using h)
    unfold hasK at ih ⊢
    rw [List.map_cons, List.zip_cons_cons, List.any_cons, List.any_cons, ih]
    by_cases h1 : e.1 = k
    · rw [decide_eq_true h1, decide_eq_true (congrArg fk h1)]
    · rw [decide_eq_false h1, decide_eq_false fun z => h1 (hf z)]
/-- what a key and a dict's cell tell -/
theorem dget_of {G : Gm} {W Z : Addr → Prop} {φ : List Addr} {H : Hp} {M : Mem} {x y : AV} {v u : V} {b : Bool} (R : Rel G W Z φ M H) (r1 : SR G (Bar W Z) φ H x v) (r2 : SR G (Bar W Z) φ H y u) (h : dIn x y M = some b) : ∃ a o, u = .ref a ∧ DGet H a v o ∧ o.isSome = b := by
  unfold dIn at h
  split at h
  · rename_i d c
    obtain ⟨p, ep, rfl⟩ := r2
    split at h
    · rename_i kvs em
      obtain ⟨_, us, hp, ru⟩ := R.cell c p _ ep em
      obtain ⟨ks, hk, rfl⟩ := Option.map_eq_some_iff.mp h
      cases d with
      | tup xs =>
        have hk : (if ktOn = true then none else ints? xs) = some ks := hk
        have kt : ¬ ktOn = true := fun z => by rw [if_pos z] at hk; cases hk
        rw [if_neg kt] at hk
        have e1 := ints_ok hk
        subst e1
        cases r1 with
        | @tup a vs _ h1 h2 =>
          have h1 := h1.resolve_right fun z => kt z.1
          have hv := h2.ints
          subst hv
          refine ⟨p, _, rfl, DGet.t (k := ks.map Sum.inl) hp (by rw [List.map_map]; exact h1.1), ?_⟩
          rw [← valV_any, any_zip inl_inj ks kvs us (by have := ru.length; simpa using this)]
      | _ => cases hk
    · rename_i kvs em
      obtain ⟨_, us, hp, ru⟩ := R.cell c p _ ep em
      split at h
      · rename_i i
        cases h
        cases r1
        refine ⟨p, _, rfl, DGet.k (k := Sum.inl i) hp, ?_⟩
        rw [← valV_any]
        exact any_zip (fk := (Sum.inl : Int → Key)) (fun z => by injection z) i kvs us (by have := ru.length; simpa using this)
      · cases h
    · cases h
  · cases h
section
variable {X : Cx} {E : WX} {a b o i v : Expr} {f g fo fi fv : SE} {pos pos' : Pos}
theorem ge_inD (hu : X.A.units + 65 < cLine) (hm : behindInMarks .In b = false) (ha : GE X E a f) (hb : GE X E b g) : GE X E (.Compare a [.In] [b] pos) (sInD false f g) :=
  ge_two (r := fun y x H Q => ∃ a o, x = .ref a ∧ DGet H a y o ∧ Q (.bl o.isSome) H) (fun ha hb => pe_cmp (pc_din (by omega) ha hb) hm) ha hb fun W Z φ M H x y v u Q E R r1 r2 h => by
    unfold inDOp at h
    split at h
    · rename_i bb e
      obtain ⟨p, ov, rfl, hg, rfl⟩ := dget_of R r1 r2 e
      refine ⟨p, ov, rfl, hg, ?_⟩
      have := Run.ok R h (v := .bl (false != ov.isSome)) (.bl _) (fun _ z => by cases z)
      simpa using this
    · exact h.elim
theorem ge_notInD (hu : X.A.units + 65 < cLine) (hm : behindInMarks .NotIn b = false) (ha : GE X E a f) (hb : GE X E b g) : GE X E (.Compare a [.NotIn] [b] pos) (sInD true f g) :=
  ge_two (r := fun y x H Q => ∃ a o, x = .ref a ∧ DGet H a y o ∧ Q (.bl (!o.isSome)) H) (fun ha hb => pe_cmp (pc_dnotin (by omega) ha hb) hm) ha hb fun W Z φ M H x y v u Q E R r1 r2 h => by
    unfold inDOp at h
    split at h
    · rename_i bb e
      obtain ⟨p, ov, rfl, hg, rfl⟩ := dget_of R r1 r2 e
      refine ⟨p, ov, rfl, hg, ?_⟩
      have := Run.ok R h (v := .bl (true != ov.isSome)) (.bl _) (fun _ z => by cases z)
      simpa using this
    · exact h.elim
end
/-! ### d[k] = v -/
def putL {κ : Type} [DecidableEq κ] (kvs : List (κ × D)) (k : κ) (v : D) : List (κ × D) := if hasK kvs k = true then kvs.map (fun e => if e.1 = k then (e.1, v) else e) else kvs ++ [(k, v)]
def dPut (d : D) (y x : AV) (M : Mem) : Option Mem := match y, x with
  | .cell c, .d kd => match M[c]? with
    | some (some (.t kvs)) => match ksOf kd with
      | some k => if kvs.length < sizeLine then some (M.set c (some (.t (putL kvs k d)))) else none
      | none => none
    | some (some (.k kvs)) => match kd with
      | .int i => if kvs.length < sizeLine then some (M.set c (some (.k (putL kvs i d)))) else none
      | _ => none
    | _ => none
  | _, _ => none
def sPutD (fo fi fv : SE) : SS := fun env M => (fv env M).bind fun v M1 => (fo env M1).bind fun o M2 => (fi env M2).bind fun i M3 => match v with
  | .d d => match dPut d o i M3 with
    | some M4 => .ok (.next env) M4
    | none => .bad
  | _ => .bad
theorem map_zip {κ κ' : Type} [DecidableEq κ] [DecidableEq κ'] {fk : κ → κ'} (hf : ∀ {a b}, fk a = fk b → a = b) {G : Gm} {B : Addr → Prop} {H : Hp} {d : D} {v : V} (rd : RD G B H d v) (k : κ) : ∀ (kvs : List (κ × D)) (us : List V), RDs G B H (kvs.map (·.2)) us →
    ∃ us', (List.zip (kvs.map fun e => fk e.1) us).map (fun kv => if kv.1 = fk k then (kv.1, v) else kv) = List.zip ((kvs.map fun e => if e.1 = k then (e.1, d) else e).map fun e => fk e.1) us' ∧ RDs G B H ((kvs.map fun e => if e.1 = k then (e.1, d) else e).map (·.2)) us'
  | [], us, h => by cases h; exact ⟨[], rfl, .nil⟩
  | e :: kvs, us, h => by
    cases h with
    | @cons _ _ u us h1 h2 =>
      obtain ⟨us', e1, e2⟩ := map_zip hf rd k kvs us h2
      by_cases hk : e.1 = k
      · refine ⟨v :: us', ?_, ?_⟩
        · rw [List.map_cons, List.zip_cons_cons, List.map_cons, e1, List.map_cons, List.map_cons, if_pos hk, if_pos (congrArg fk hk)]
          rfl
        · rw [List.map_cons, List.map_cons, if_pos hk]
          exact .cons rd e2
      · refine ⟨u :: us', ?_, ?_⟩
        · rw [List.map_cons, List.zip_cons_cons, List.map_cons, e1, List.map_cons, List.map_cons, if_neg hk, if_neg fun z => hk (hf z)]
          rfl
        · rw [List.map_cons, List.map_cons, if_neg hk]
          exact .cons h1 e2
theorem put_zip {κ κ' : Type} [DecidableEq κ] [DecidableEq κ'] {fk : κ → κ'} (hf : ∀ {a b}, fk a = fk b → a = b) {G : Gm} {B : Addr → Prop} {H : Hp} {d : D} {v : V} (rd : RD G B H d v) (k : κ) (kvs : List (κ × D)) (us : List V) (h : RDs G B H (kvs.map (·.2)) us) :
    ∃ us', putK (List.zip (kvs.map fun e => fk e.1) us) (fk k) v = List.zip ((putL kvs k d).map fun e => fk e.1) us' ∧ RDs G B H ((putL kvs k d).map (·.2)) us' := by
  have hl : kvs.length = us.length := by have := h.length; simpa using this
  unfold putK putL
  rw [any_zip hf k kvs us hl]
  by_cases hk : hasK kvs k = true
  · rw [if_pos hk, if_pos hk]
    exact map_zip hf rd k kvs us h
  · rw [if_neg hk, if_neg hk]
    refine ⟨us ++ [v], ?_, ?_⟩
    · rw [List.map_append, List.zip_append (by rw [List.length_map]; exact hl)]
      rfl
    · rw [List.map_append]
      exact h.append (.cons rd .nil)
theorem dput_of {G : Gm} {W Z : Addr → Prop} {φ : List Addr} {H : Hp} {M M4 : Mem} {d : D} {o i : AV} {v u y : V} (R : Rel G W Z φ M H) (rd : RD G (Bar W Z) H d v) (r1 : SR G (Bar W Z) φ H o u) (r2 : SR G (Bar W Z) φ H i y) (h : dPut d o i M = some M4) :
    ∃ a H4, u = .ref a ∧ DPut H a y v H4 ∧ Rel G W Z φ M4 H4 ∧ Ext W H W H4 := by
  unfold dPut at h
  split at h
  · rename_i c kd
    obtain ⟨p, ep, rfl⟩ := r1
    split at h
    · rename_i kvs em
      split at h
      · rename_i ks hk
        split at h
        · rename_i hl
          cases h
          obtain ⟨_, us, hp, ru⟩ := R.cell c p _ ep em
          have hlu : kvs.length = us.length := by have := ru.length; simpa using this
          cases kd with
          | tup xs =>
            have hk : (if ktOn = true then none else ints? xs) = some ks := hk
            have kt : ¬ ktOn = true := fun z => by rw [if_pos z] at hk; cases hk
            rw [if_neg kt] at hk
            have e1 := ints_ok hk
            subst e1
            cases r2 with
            | @tup a vs _ h1 h2 =>
              have h1 := h1.resolve_right fun z => kt z.1
              have hv := h2.ints
              subst hv
              obtain ⟨us', e2, r3⟩ := put_zip (fk := fun l : List Int => l.map (Sum.inl : Int → Key)) inl_inj rd ks kvs us ru
              obtain ⟨R2, x⟩ := R.putCell (o := .dT (putK (List.zip (kvs.map fun e => e.1.map Sum.inl) us) (ks.map Sum.inl) v)) (c2 := .t (putL kvs ks d)) ep em fun x => ⟨us', by rw [upd_same]; exact congrArg (fun z => some (HO.dT z)) e2, r3.ext x.bar⟩
              refine ⟨p, _, rfl, DPut.t (k := ks.map Sum.inl) hp (by rw [List.map_map]; exact h1.1) ?_, R2, x⟩
              rw [List.length_zip, List.length_map]
              omega
          | _ => cases hk
        · cases h
      · cases h
    · rename_i kvs em
      split at h
      · rename_i k
        split at h
        · rename_i hl
          cases h
          obtain ⟨_, us, hp, ru⟩ := R.cell c p _ ep em
          have hlu : kvs.length = us.length := by have := ru.length; simpa using this
          cases r2
          obtain ⟨us', e2, r3⟩ := put_zip (fk := (Sum.inl : Int → Key)) (fun z => by injection z) rd k kvs us ru
          obtain ⟨R2, x⟩ := R.putCell (o := .dK (putK (List.zip (kvs.map fun e => Sum.inl e.1) us) (Sum.inl k) v)) (c2 := .k (putL kvs k d)) ep em fun x => ⟨us', by rw [upd_same]; exact congrArg (fun z => some (HO.dK z)) e2, r3.ext x.bar⟩
          refine ⟨p, _, rfl, DPut.k (k := Sum.inl k) hp ?_, R2, x⟩
          rw [List.length_zip, List.length_map]
          omega
        · cases h
      · cases h
    · cases h
  · cases h
section
variable {X : Cx} {E : WX} {o i v : Expr} {fo fi fv : SE} {pos tpos : Pos}
theorem gs_putD (hu : X.A.units + 65 < cLine) (hv : GE X E v fv) (ho : GE X E o fo) (hi : GE X E i fi) (hs : swapsWith v (some (.Subscript o i tpos)) pos.line X.env = pure false) : GS X E (.Assign [.Subscript o i tpos] v pos) (sPutD fo fi fv) :=
  PS.imp (ps_dput (by omega) ho hi hv hs) fun De σ H ⟨W, Z, φ, env, M, R, Er, h⟩ => ⟨W, Z, φ, env, M, R, Er,
    (RunS.bind h).imp2 (fun x H1 ⟨W1, M1, x', _, R1, x1, r1, h2⟩ => ⟨W1, Z, φ, env, M1, R1, Er.ext x1.bar,
      (RunS.bind h2).imp2 (fun y H2 ⟨W2, M2, y', _, R2, x2, r2, h3⟩ => ⟨W2, Z, φ, env, M2, R2, (Er.ext x1.bar).ext x2.bar,
        (RunS.bind h3).imp2 (fun z H3 ⟨W3, M3, z', _, R3, x3, r3, h4⟩ => by
          cases x' with
          | d d =>
            dsimp only at h4
            cases ep : dPut d y' z' M3 with
            | none => rw [ep] at h4; exact h4.elim
            | some M4 =>
              rw [ep] at h4
              have r1' : RD _ _ H1 d x := r1
              obtain ⟨a, H4, rfl, hput, R4, x4⟩ := dput_of R3 ((r1'.ext x2.bar).ext x3.bar) (r2.sr.ext x3.bar) r3.sr ep
              refine ⟨a, H4, rfl, hput, ?_⟩
              exact h4 W3 [] H4 σ ⟨by simpa using R4, x4, fun _ z => by cases z⟩ (by simpa using (((Er.ext x1.bar).ext x2.bar).ext x3.bar).ext x4.bar) rfl
          | _ => exact h4.elim) (fun c d H' q => q σ rfl)⟩) (fun c d H' q => q σ rfl)⟩) (fun c d H' q => q σ rfl)⟩
end
section
variable {X : Cx} {E : WX} {a b : Expr} {f g : SE} {pos : Pos}
theorem gb_inD (hu : X.A.units + 65 < cLine) (hm : behindInMarks .In b = false) (ha : GE X E a f) (hb : GE X E b g) : GB X E (.Compare a [.In] [b] pos) (sB (sInD false f g)) :=
  PT.imp (pt_cmp (pc_din (by omega) ha hb) hm) fun σ H Q ⟨W, Z, φ, env, M, R, Er, h⟩ => by
    have h' : RunB (gm X) Z φ W H ((f env M).bind fun x M1 => (g env M1).bind fun y M2 => (inDOp false x y M2).bind fun z M3 => match truth M3 z with | some b => .ok b M3 | none => .bad) Q (fun c d H' => E c d σ H') := by
      have e : (sB (sInD false f g) env M) = ((f env M).bind fun x M1 => (g env M1).bind fun y M2 => (inDOp false x y M2).bind fun z M3 => match truth M3 z with | some b => .ok b M3 | none => .bad) := by
        unfold sB sInD sTwo
        rw [Out.assoc]
        congr 1
        funext x M1
        rw [Out.assoc]
        try rfl
      rw [← e]; exact h
    exact ⟨W, Z, φ, env, M, R, Er, (RunB.bind h').imp fun v H1 ⟨W1, M1, x, _, R1, x1, r1, h2⟩ =>
      ⟨W1, Z, φ, env, M1, R1, Er.ext x1.bar, (RunB.bind h2).imp fun u H2 ⟨W2, M2, y, _, R2, x2, r2, h4⟩ => by
        unfold inDOp at h4
        cases e : dIn x y M2 with
        | none => rw [e] at h4; exact h4.elim
        | some bb =>
          rw [e] at h4
          obtain ⟨p, ov, rfl, hg, rfl⟩ := dget_of R2 (r1.sr.ext x2.bar) r2.sr e
          refine ⟨p, ov, rfl, hg, _, rfl, ?_⟩
          have h5 : RunB (gm X) Z φ W2 H2 (.ok (false != ov.isSome) M2) Q (fun c d H' => E c d σ H') := h4
          have := RunB.ok R2 h5
          simpa using this⟩⟩
theorem gb_notInD (hu : X.A.units + 65 < cLine) (hm : behindInMarks .NotIn b = false) (ha : GE X E a f) (hb : GE X E b g) : GB X E (.Compare a [.NotIn] [b] pos) (sB (sInD true f g)) :=
  PT.imp (pt_cmp (pc_dnotin (by omega) ha hb) hm) fun σ H Q ⟨W, Z, φ, env, M, R, Er, h⟩ => by
    have h' : RunB (gm X) Z φ W H ((f env M).bind fun x M1 => (g env M1).bind fun y M2 => (inDOp true x y M2).bind fun z M3 => match truth M3 z with | some b => .ok b M3 | none => .bad) Q (fun c d H' => E c d σ H') := by
      have e : (sB (sInD true f g) env M) = ((f env M).bind fun x M1 => (g env M1).bind fun y M2 => (inDOp true x y M2).bind fun z M3 => match truth M3 z with | some b => .ok b M3 | none => .bad) := by
        unfold sB sInD sTwo
        rw [Out.assoc]
        congr 1
        funext x M1
        rw [Out.assoc]
        try rfl
      rw [← e]; exact h
    exact ⟨W, Z, φ, env, M, R, Er, (RunB.bind h').imp fun v H1 ⟨W1, M1, x, _, R1, x1, r1, h2⟩ =>
      ⟨W1, Z, φ, env, M1, R1, Er.ext x1.bar, (RunB.bind h2).imp fun u H2 ⟨W2, M2, y, _, R2, x2, r2, h4⟩ => by
        unfold inDOp at h4
        cases e : dIn x y M2 with
        | none => rw [e] at h4; exact h4.elim
        | some bb =>
          rw [e] at h4
          obtain ⟨p, ov, rfl, hg, rfl⟩ := dget_of R2 (r1.sr.ext x2.bar) r2.sr e
          refine ⟨p, ov, rfl, hg, _, rfl, ?_⟩
          have h5 : RunB (gm X) Z φ W2 H2 (.ok (true != ov.isSome) M2) Q (fun c d H' => E c d σ H') := h4
          have := RunB.ok R2 h5
          simpa using this⟩⟩
end
/-! ### stepping -/
section
variable {β : Type} {kx : Exc → Mem → Out β} {res : Out β} {env : Env} {M : Mem}
theorem e_newD {k : Fl → Mem → Out β} {i : Nat} {c : MC} (h : k (.next (env.set i (some (.cell M.length)))) (M ++ [some c]) = res) : el (sNewD i c env M) k kx = res := h
theorem e_inD {k : AV → Mem → Out β} {neg : Bool} {f g : SE} (h : el (f env M) (fun x M1 => el (g env M1) (fun y M2 => el (inDOp neg x y M2) k kx) kx) kx = res) : el (sInD neg f g env M) k kx = res := by
  rw [← h]
  unfold sInD sTwo
  rw [el_bind]
  congr
  funext x M1
  rw [el_bind]
theorem p_inD {k : AV → Mem → Out β} {neg b : Bool} {x y : AV} (e : dIn x y M = some b) (h : k (.d (.bl (neg != b))) M = res) : el (inDOp neg x y M) k kx = res := by
  unfold inDOp
  rw [e]
  exact h
def putK1 (v o i : AV) (M : Mem) (q : Mem → Out β) : Out β := match v with
  | .d d => match dPut d o i M with
    | some M4 => q M4
    | none => .bad
  | _ => .bad
theorem e_putD {k : Fl → Mem → Out β} {fo fi fv : SE} (h : el (fv env M) (fun v M1 => el (fo env M1) (fun o M2 => el (fi env M2) (fun i M3 => putK1 v o i M3 fun M4 => k (.next env) M4) kx) kx) kx = res) : el (sPutD fo fi fv env M) k kx = res := by
  rw [← h]
  unfold sPutD
  rw [el_bind]
  congr
  funext v M1
  rw [el_bind]
  congr
  funext o M2
  rw [el_bind]
  congr
  funext i M3
  unfold putK1
  cases v with
  | d d =>
    dsimp only
    cases dPut d o i M3 <;> rfl
  | _ => rfl
theorem p_putD {d : D} {o i : AV} {M4 : Mem} {q : Mem → Out β} (e : dPut d o i M = some M4) (h : q M4 = res) : putK1 (.d d) o i M q = res := by
  unfold putK1
  dsimp only
  rw [e]
  exact h
end
theorem dIn_t (kt : ktOn = false) {c : Nat} {M : Mem} {kvs : List (List Int × D)} {ks : List Int} (e : M[c]? = some (some (.t kvs))) : dIn (.d (ti ks)) (.cell c) M = some (hasK kvs ks) := by
  unfold dIn
  dsimp only
  rw [e]
  show (ksOf (ti ks)).map (hasK kvs) = _
  have : ksOf (ti ks) = some ks := by
    show (if ktOn = true then none else ints? (ks.map D.int)) = _
    rw [kt]
    exact ints_map ks
  rw [this]
  rfl
theorem dIn_k {c : Nat} {M : Mem} {kvs : List (Int × D)} {i : Int} (e : M[c]? = some (some (.k kvs))) : dIn (.d (.int i)) (.cell c) M = some (hasK kvs i) := by
  unfold dIn
  dsimp only
  rw [e]
theorem dPut_t (kt : ktOn = false) {c : Nat} {M : Mem} {kvs : List (List Int × D)} {ks : List Int} {d : D} (e : M[c]? = some (some (.t kvs))) (hl : kvs.length < 1000000) : dPut d (.cell c) (.d (ti ks)) M = some (M.set c (some (.t (putL kvs ks d)))) := by
  have hs : kvs.length < sizeLine := Nat.lt_of_lt_of_le hl (by decide)
  unfold dPut
  dsimp only
  rw [e]
  have : ksOf (ti ks) = some ks := by
    show (if ktOn = true then none else ints? (ks.map D.int)) = _
    rw [kt]
    exact ints_map ks
  dsimp only
  rw [this]
  dsimp only
  rw [if_pos hs]
theorem dPut_k {c : Nat} {M : Mem} {kvs : List (Int × D)} {i : Int} {d : D} (e : M[c]? = some (some (.k kvs))) (hl : kvs.length < 1000000) : dPut d (.cell c) (.d (.int i)) M = some (M.set c (some (.k (putL kvs i d)))) := by
  have hs : kvs.length < sizeLine := Nat.lt_of_lt_of_le hl (by decide)
  unfold dPut
  dsimp only
  rw [e]
  dsimp only
  rw [if_pos hs]
end Mp

namespace Mp
open PySem L2 PySem.Spec PyProof.Rows

/-! ## max(t), min(t) of a tuple of ints -/
theorem reads_vals {h : Heap} : ∀ {ns : List Int} {its : List Value}, Vals (ns.map V.int) its → ∃ as, ReadsAll h its (ns.map PyData.int) as
  | [], _, r => by cases r; exact ⟨_, .nil⟩
  | n :: ns, _, r => by
    cases r with
    | cons r t =>
      obtain ⟨as, h⟩ := reads_vals t
      obtain ⟨_, rfl⟩ := r
      exact ⟨_, .cons (.int _ _) h⟩
theorem maxL_fold : ∀ (r : List Int) (m : Int), r.foldl max m = maxL m r
  | [], _ => rfl
  | x :: r, m => maxL_fold r (max m x)
theorem minL_fold : ∀ (r : List Int) (m : Int), r.foldl min m = minL m r
  | [], _ => rfl
  | x :: r, m => minL_fold r (min m x)
def rMaxT (K : PySem.W.Frag) : List V → Hp → VK → Prop := fun vs H Q => ∃ (a : Addr) (m : Int) (ns : List Int), vs = [V.ref a] ∧ SqT K H a ((m :: ns).map V.int) ∧ Q (.int (maxL m ns)) H
def rMinT (K : PySem.W.Frag) : List V → Hp → VK → Prop := fun vs H Q => ∃ (a : Addr) (m : Int) (ns : List Int), vs = [V.ref a] ∧ SqT K H a ((m :: ns).map V.int) ∧ Q (.int (minL m ns)) H
theorem alike_ints2 (ns : List Int) : PySem.W.AlikeAll (ns.map PyData.int) := by
  refine ⟨fun x hx y hy => ?_, fun x hx => ?_⟩
  · obtain ⟨a, _, rfl⟩ := List.mem_map.mp hx
    obtain ⟨b, _, rfl⟩ := List.mem_map.mp hy
    rfl
  · obtain ⟨a, _, rfl⟩ := List.mem_map.mp hx
    exact fun h => nomatch h
theorem cr_maxT {X : Cx} (hc : X.calm = true) (hu : X.A.units + 64 < cLine) : CallR X (.builtin "max") (rMaxT X.K) := by
  intro pins s σ H vs us Q I r h
  obtain ⟨a, m, ns, rfl, hs, q⟩ := h
  obtain ⟨its, rv, ht, _⟩ := I.tuple hs
  rw [Vals.ref1 r]
  obtain ⟨as, hr⟩ := reads_vals (h := s.heap) rv
  refine PySem.W.max_tuple_data (x := .int m) (xs := ns.map .int) (I.ok.hd hc) ht hr (alike_ints2 (m :: ns)) ?_ fun i v h' tk bs hi hr' hk => ?_
  · have := PySem.W.depth_ints (m :: ns)
    rw [show (PyData.int m :: ns.map .int) = (m :: ns).map PyData.int from rfl, this]
    omega
  · rw [PySem.W.maxD_ints, maxL_fold] at hr'
    cases hr'
    exact ⟨.int _, H, I.kept hk, ⟨_, rfl⟩, q⟩
theorem cr_minT {X : Cx} (hc : X.calm = true) (hu : X.A.units + 64 < cLine) : CallR X (.builtin "min") (rMinT X.K) := by
  intro pins s σ H vs us Q I r h
  obtain ⟨a, m, ns, rfl, hs, q⟩ := h
  obtain ⟨its, rv, ht, _⟩ := I.tuple hs
  rw [Vals.ref1 r]
  obtain ⟨as, hr⟩ := reads_vals (h := s.heap) rv
  refine PySem.W.min_tuple_data (x := .int m) (xs := ns.map .int) (I.ok.hd hc) ht hr (alike_ints2 (m :: ns)) ?_ fun i v h' tk bs hi hr' hk => ?_
  · have := PySem.W.depth_ints (m :: ns)
    rw [show (PyData.int m :: ns.map .int) = (m :: ns).map PyData.int from rfl, this]
    omega
  · rw [PySem.W.minD_ints, minL_fold] at hr'
    cases hr'
    exact ⟨.int _, H, I.kept hk, ⟨_, rfl⟩, q⟩
def maxOp2 : List AV → Mem → Out AV
  | [a], M => match (tupOf a).bind ints? with
    | some (m :: ns) => .ok (.d (.int (maxL m ns))) M
    | _ => maxOp [a] M
  | avs, M => maxOp avs M
def minOp2 : List AV → Mem → Out AV
  | [a], M => match (tupOf a).bind ints? with
    | some (m :: ns) => .ok (.d (.int (minL m ns))) M
    | _ => minOp [a] M
  | avs, M => minOp avs M
section
variable {G : Gm} {W Z B : Addr → Prop} {φ : List Addr} {H : Hp} {M : Mem} {Q : VK} {E : XK} {avs : List AV} {vs : List V}
theorem Rel.tupInts {a : AV} {v : V} {ns : List Int} (r : SR G (Bar W Z) φ H a v) (h : (tupOf a).bind ints? = some ns) : ∃ p, v = .ref p ∧ SqT G.K H p (ns.map V.int) := by
  obtain ⟨xs, e1, e2⟩ := Option.bind_eq_some_iff.mp h
  have e3 := ints_ok e2
  subst e3
  have e : a = .d (.tup (ns.map D.int)) := by
    unfold tupOf at e1
    split at e1
    · cases e1; rfl
    · cases e1
  subst e
  have r2 : RD G (Bar W Z) H (.tup (ns.map D.int)) v := r
  cases r2 with
  | tup h1 h2 =>
    rw [h2.ints] at h1
    exact ⟨_, rfl, h1.sq⟩
theorem max2_run (R : Rel G W Z φ M H) (r : SRs G (Bar W Z) φ H avs vs) (h : Run G Z φ W H (maxOp2 avs M) Q E) : rMaxT G.K vs H Q ∨ (rMax G.K vs H Q ∨ ∃ i j, vs = [.int i, .int j] ∧ Q (.int (if j > i then j else i)) H) := by
  unfold maxOp2 at h
  split at h
  · split at h
    · rename_i m ns e
      left
      obtain ⟨v, rfl, r1⟩ := r.one
      obtain ⟨p, rfl, h1⟩ := Rel.tupInts r1 e
      exact ⟨p, m, ns, rfl, h1, Run.ok R h (.int _) (fun _ z => by cases z)⟩
    · exact .inr (max_run R r h)
  · exact .inr (max_run R r h)
theorem min2_run (R : Rel G W Z φ M H) (r : SRs G (Bar W Z) φ H avs vs) (h : Run G Z φ W H (minOp2 avs M) Q E) : rMinT G.K vs H Q ∨ (rMin G.K vs H Q ∨ ∃ i j, vs = [.int i, .int j] ∧ Q (.int (if j < i then j else i)) H) := by
  unfold minOp2 at h
  split at h
  · split at h
    · rename_i m ns e
      left
      obtain ⟨v, rfl, r1⟩ := r.one
      obtain ⟨p, rfl, h1⟩ := Rel.tupInts r1 e
      exact ⟨p, m, ns, rfl, h1, Run.ok R h (.int _) (fun _ z => by cases z)⟩
    · exact .inr (min_run R r h)
  · exact .inr (min_run R r h)
end
section
variable {X : Cx} {E : WX} {e : Expr} {es : List Expr} {l : SL} {pos p : Pos}
theorem gc_max2 (hu : X.A.units + 65 < cLine) (hc : X.calm = true) (hl : GL X E (e :: es) l) (he : starEach (e :: es) X.env = (false, eval e X.env) :: starEach es X.env) (hpl : (backTo pos (starEach es X.env)).any (·.1) = false) (hg : Gl X "max") (hm : X.mg "max" = none) : GE X E (.Call (.Name "max" p) (e :: es) [] pos) (sArgs maxOp2 l) :=
  ge_bi (fun h => pe_callB ((cr_maxT hc (by omega)).or ((cr_max hc).or (call_max2 hc))) hg hm boot_max h (he := he) (hpl := hpl)) hl fun W Z φ M H avs vs Q E R r h => max2_run R r h
theorem gc_min2 (hu : X.A.units + 65 < cLine) (hc : X.calm = true) (hl : GL X E (e :: es) l) (he : starEach (e :: es) X.env = (false, eval e X.env) :: starEach es X.env) (hpl : (backTo pos (starEach es X.env)).any (·.1) = false) (hg : Gl X "min") (hm : X.mg "min" = none) : GE X E (.Call (.Name "min" p) (e :: es) [] pos) (sArgs minOp2 l) :=
  ge_bi (fun h => pe_callB ((cr_minT hc (by omega)).or ((cr_min hc).or (call_min2 hc))) hg hm boot_min h (he := he) (hpl := hpl)) hl fun W Z φ M H avs vs Q E R r h => min2_run R r h
end
section
variable {β : Type} {kx : Exc → Mem → Out β} {res : Out β} {k : AV → Mem → Out β} {M : Mem}
theorem p_max2 {i j : Int} (h : k (.d (.int (max i j))) M = res) : el (maxOp2 [.d (.int i), .d (.int j)] M) k kx = res := h
theorem p_min2 {i j : Int} (h : k (.d (.int (min i j))) M = res) : el (minOp2 [.d (.int i), .d (.int j)] M) k kx = res := h
theorem max2_t {m : Int} {ns : List Int} : maxOp2 [.d (ti (m :: ns))] M = .ok (.d (.int (maxL m ns))) M := by
  show (match (some ((m :: ns).map D.int)).bind ints? with
    | some (m :: ns) => Out.ok (AV.d (.int (maxL m ns))) M
    | _ => maxOp [.d (ti (m :: ns))] M) = _
  rw [Option.bind_some, ints_map]
theorem min2_t {m : Int} {ns : List Int} : minOp2 [.d (ti (m :: ns))] M = .ok (.d (.int (minL m ns))) M := by
  show (match (some ((m :: ns).map D.int)).bind ints? with
    | some (m :: ns) => Out.ok (AV.d (.int (minL m ns))) M
    | _ => minOp [.d (ti (m :: ns))] M) = _
  rw [Option.bind_some, ints_map]
theorem max2_l {m : Int} {ns : List Int} : maxOp2 [.d (.lst ((m :: ns).map .int))] M = .ok (.d (.int (maxL m ns))) M := by
  show (match (some ((m :: ns).map D.int)).bind ints? with
    | some (m :: ns) => Out.ok (AV.d (.int (maxL m ns))) M
    | _ => .bad) = _
  rw [Option.bind_some, ints_map]
theorem min2_l {m : Int} {ns : List Int} : minOp2 [.d (.lst ((m :: ns).map .int))] M = .ok (.d (.int (minL m ns))) M := by
  show (match (some ((m :: ns).map D.int)).bind ints? with
    | some (m :: ns) => Out.ok (AV.d (.int (minL m ns))) M
    | _ => .bad) = _
  rw [Option.bind_some, ints_map]
end
end Mp

namespace Mp
open PySem L2 PySem.Spec PyProof.Rows

/-! ## drawn rows, loops with continue, known values -/
theorem e_is {α β : Type} {kx : Exc → Mem → Out β} {res : Out β} {k : α → Mem → Out β} {r : Out α} {v : α} {M' : Mem} (e : r = .ok v M') (h : k v M' = res) : el r k kx = res := by rw [e]; exact h
theorem p_addT {β : Type} {kx : Exc → Mem → Out β} {res : Out β} {k : AV → Mem → Out β} {xs ys : List D} {M : Mem} (h : xs.length + ys.length ≤ 1000000) (q : k (.d (.tup (xs ++ ys))) M = res) : el (binop .Add (opnd M (.d (.tup xs))) (opnd M (.d (.tup ys))) M) k kx = res := by rw [add_tup h]; exact q
/-- a comprehension whose items change the state -/
theorem comp_ex {f : SE} {c : SB} {tg : Tg} {vs : List Nat} {env : Env} {I : Mem → Prop} {Pr : D → Prop} : ∀ (items acc : List D) (M : Mem), I M →
    (∀ d ∈ items, ∀ M, I M → ∃ e, tg.bind d (wipeE env vs) = some e ∧ c e M = .ok true M ∧ ∃ av M' x, f e M = .ok av M' ∧ keepD av M' = some (x, M') ∧ Pr x ∧ I M') → acc.length + items.length ≤ 1000000 →
    ∃ xs M', compL f c tg vs [] env items acc M = .ok (.fr (acc ++ xs)) M' ∧ I M' ∧ xs.length = items.length ∧ ∀ x ∈ xs, Pr x
  | [], acc, M, h, _, _ => ⟨[], M, by simp [compL, depsOk], h, rfl, fun x hx => nomatch hx⟩
  | d :: r, acc, M, h, step, hl => by
    obtain ⟨e, e1, e2, av, M1, x, e3, e4, hx, h1⟩ := step d List.mem_cons_self M h
    rw [List.length_cons] at hl
    obtain ⟨xs, M2, e5, h2, h3, h4⟩ := comp_ex r (acc ++ [x]) M1 h1 (fun d hd => step d (.tail _ hd)) (by rw [List.length_append, List.length_singleton]; omega)
    refine ⟨x :: xs, M2, ?_, h2, by rw [List.length_cons, List.length_cons, h3], fun y hy => ?_⟩
    · rw [compL, if_pos (by rfl), e1]
      dsimp only
      rw [e2]
      dsimp only
      rw [e3]
      dsimp only
      rw [e4]
      dsimp only
      have hs : acc.length < sizeLine := Nat.lt_of_lt_of_le (show acc.length < 1000001 by omega) (by decide)
      rw [if_pos hs, e5, List.append_assoc, List.singleton_append]
    · rcases List.mem_cons.mp hy with rfl | hy
      · exact hx
      · exact h4 y hy
/-- a loop whose body may go on early -/
theorem for_okC {body : SS} {tg : Tg} {I : Env → Mem → Prop} : ∀ (items : List D) (step : ∀ d ∈ items, ∀ env M, I env M → ∃ e env' M', tg.bind d env = some e ∧ (body e M = .ok (.next env') M' ∨ body e M = .ok (.cont env') M') ∧ I env' M') (env : Env) (M : Mem), I env M → ∃ env' M', forL body tg [] items env M = .ok (.next env') M' ∧ I env' M'
  | [], _, env, M, h => ⟨env, M, rfl, h⟩
  | d :: r, step, env, M, h => by
    obtain ⟨e, env1, M1, e1, e2, h1⟩ := step d List.mem_cons_self env M h
    obtain ⟨env2, M2, e3, h2⟩ := for_okC r (fun d hd => step d (.tail _ hd)) env1 M1 h1
    refine ⟨env2, M2, ?_, h2⟩
    rw [forL, if_pos (by rfl), e1]
    dsimp only
    rcases e2 with e2 | e2
    · rw [e2, Out.bind_ok]
      exact e3
    · rw [e2, Out.bind_ok]
      exact e3
end Mp

set_option maxHeartbeats 4000000
namespace Mp
open PySem L2 PySem.Spec PyProof.Rows

/-! ## sorted(set(..)) of ints -/
section
variable {P : Program} {w : World} {A : Around} {E : Value → Shared → Prop} {s : Shared}
/-- the empty set that is laid first -/
abbrev set0 (w : World) : Obj := { cls := .type "set", dict := none, data := .set #[] 0 (.fresh 0 0 (!w.params.followText "set-order")) }
/-- what set(l) leaves -/
abbrev SetLeft (w : World) (s : Shared) (ns : List Int) (s2 : Shared) : Prop := ∃ h2 t2 c, s2 = { s with heap := h2, toks := t2 } ∧ SetR w h2 s.heap.objs.size (fun j => decide (j ∈ ns)) c ∧ c ≤ ns.length ∧ ∀ b o, s.heap.get? b = some o → h2.get? b = some o
theorem set_from_list {l : Addr} {its : Array Value} (ns : List Int) {Q : Value → Shared → Prop} (hh : A.handled = none) (hl : s.heap.IsList l its) (hi : IntsAre its.toList ns) (hb : ns.length + 1 < scanBound)
    (q : ∀ s2, SetLeft w s ns s2 → Q (.ref s.heap.objs.size) s2) : wpAny (model P w) A (call (.type "set") [.ref l]) Q E s := by
  have hn : its.size = ns.length := by rw [← Array.length_toList]; exact IntsAre.length hi
  have vals : ∀ (i : Nat) (v : Value), its[i]? = some v → ∃ k t, ns[i]? = some k ∧ v = .int k t := fun i v hv => by
    obtain ⟨lt, _⟩ := Array.getElem?_eq_some_iff.mp hv
    obtain ⟨t, e⟩ := PyProof.Rows.IntsAre.int_at hi i v (by rw [Array.getElem?_toList]; exact hv)
    have lt2 : i < ns.length := hn ▸ lt
    exact ⟨ns[i], t, List.getElem?_eq_getElem lt2, by rw [e, List.getD_eq_getElem?_getD, List.getElem?_eq_getElem lt2]; rfl⟩
  obtain ⟨c0, tl, mro⟩ := F.called_set.mro
  have f1 := F.called_set.made
  have f2 := F.called_set.sub
  have f3 := F.called_set.notType
  have f4 := F.called_set.canCreate
  have f5 := F.typeCall_set_1 (.ref l)
  have wt := weight_type_call_type "set" [.ref l] []
  refine wpAny_call (codeAny_of_tree (wpAny_pure (α := _) ⟨Code.quiet_builtin _ (by decide +kernel), codeAny_builtin F.entry_type_call ?_⟩))
  rw [Around.under_plain wt rfl]
  repeat (any_goals (first | assumption | wp_step))
  -- the object
  have made := code_set_led1 (P := P) (w := w) (A := A.in1) (s := s) (.ref l) (E := E) (Q₁ := fun x s1 => x = .ref s.heap.objs.size ∧ s1 = { s with heap := s.heap.push (set0 w) }) ⟨rfl, rfl⟩
  refine codeAny_mono made fun r s1 hr => ?_
  match r, hr with
  | .error e, hr => exact hr
  | .ok (.ret x), hr =>
    obtain ⟨rfl, rfl⟩ := hr
    have at0 : (s.heap.push (set0 w)).get? s.heap.objs.size = some (set0 w) := Heap.get?_push_size _ rfl
    have ty : Shared.TypeIs { s with heap := s.heap.push (set0 w) } (.ref s.heap.objs.size) "set" := ⟨_, at0, rfl⟩
    have g1 := F.called_set.init.lookup
    have g2 := F.called_set.init.bind (.ref s.heap.objs.size)
    repeat (any_goals (first | assumption | wp_step))
    have done := codeAny_call_builtin (prog := P) (w := w) (A := A.in1) (s := { s with heap := s.heap.push (set0 w) }) (R := wants (fun r s2 => r = .none ∧ SetLeft w s ns s2) E) F.called_set.init.plain F.entry_set_init (check_set_init_1 (a := .ref l) ty ?_)
    · refine codeAny_mono done fun r s2 hr2 => ?_
      match r, hr2 with
      | .error e, hr2 => exact hr2
      | .ok (.ret x), hr2 =>
        obtain ⟨rfl, left⟩ := hr2
        repeat (any_goals (first | assumption | wp_step))
        exact q s2 left
      | .ok .next, hr2 => exact hr2.elim
      | .ok .brk, hr2 => exact hr2.elim
      | .ok .cont, hr2 => exact hr2.elim
    · obtain ⟨⟨cl, di, da, so⟩, e1, e2, nl, e3⟩ := hl
      simp only at e2 e3
      subst e2; subst e3
      have e4 : (s.heap.push (set0 w)).get? l = some { cls := .type "list", dict := di, data := .seq its nl, slots := so } := Heap.get?_push_of_some _ e1
      have lst : (s.heap.push (set0 w)).IsList l its := ⟨_, e4, rfl, nl, rfl⟩
      have f6 := F.sub_list_set
      have f7 := F.sub_list_frozenset
      have f8 : (Value.type "list" == Value.type "dict") = false := by decide
      have ltl : l < s.heap.objs.size := Heap.lt_size e1
      have sz : (s.heap.push (set0 w)).objs.size = s.heap.objs.size + 1 := Heap.size_push ..
      unfold Builtin.«set.__init__» noKeywords
      unfold Builtin.Frozenset.updateFrom
      generalize gI : pyIter = itr
      wp_walk
      subst gI
      refine wpAny_pyIter_list lst (wpAny_bind (wpAny_runValue ?_))
      have ne1 : l ≠ (s.heap.push (set0 w)).objs.size := sz ▸ Nat.ne_of_lt (Nat.lt_succ_of_lt ltl)
      have ne2 : s.heap.objs.size ∉ [(s.heap.push (set0 w)).objs.size, l] := fun z => by
        rcases List.mem_cons.mp z with z | z
        · exact Nat.ne_of_lt (Nat.lt_succ_self _) (z.trans sz)
        · exact Nat.ne_of_gt ltl (List.mem_singleton.mp z)
      refine set_update_ints ((Walks.list (by simp [hh]) _ l ne1 its).toS) s.heap.objs.size ne2 ns hn hb vals its.size 0 _ (by omega) (Nat.zero_le _) ?st ⟨0, Nat.le_refl 0, setR_new_at (Heap.get?_push_of_some _ at0)⟩ ?fin
      case st => exact ⟨⟨_, Heap.get?_push_size _ rfl, rfl, rfl⟩, lst.push _⟩
      case fin =>
        intro s2 c mv hc sr
        obtain ⟨hp, gs, dr, tk, os⟩ := s2
        have k1 : gs = s.gens := mv.gens
        have k2 : dr = s.drawn := mv.drawn
        have k3 : os = s.os := mv.os
        subst k1 k2 k3
        refine wpAny_pure (wpAny_pure ⟨rfl, hp, tk, c, rfl, sr, hn ▸ hc, fun b o e => ?_⟩)
        have lb : b < s.heap.objs.size := Heap.lt_size e
        refine mv.heap b o (fun z => ?_) (Heap.get?_push_of_some _ (Heap.get?_push_of_some _ e))
        rcases List.mem_cons.mp z with z | z
        · exact Nat.ne_of_lt lb z
        · exact Nat.ne_of_lt (Nat.lt_succ_of_lt lb) ((List.mem_singleton.mp z).trans sz)
  | .ok .next, hr => exact hr.elim
  | .ok .brk, hr => exact hr.elim
  | .ok .cont, hr => exact hr.elim
end
/-- set(t), of a list or a tuple of ints -/
def rSetI (K : PySem.W.Frag) (w : World) : List V → Hp → VK → Prop := fun vs H Q => ∃ (p : Addr) (ns : List Int), vs = [V.ref p] ∧ (SqT K H p (ns.map V.int) ∨ SqL K H p (ns.map V.int)) ∧ ns.length ≤ 1000 ∧
  ∀ (a : Addr) (S : Int → Bool) (n : Nat), H a = none → (∀ k, S k = true ↔ k ∈ ns) → n ≤ ns.length → Q (.ref a) (upd H a (SetO w a S n))
section
variable {X : Cx}
theorem set_laid {pins : List (Addr × Obj)} {σ : L2.St} {H : Hp} {s : Shared} {ns : List Int} {Q : VK} (I : Inv X pins σ H s)
    (q : ∀ (a : Addr) (S : Int → Bool) (n : Nat), H a = none → (∀ k, S k = true ↔ k ∈ ns) → n ≤ ns.length → Q (.ref a) (upd H a (SetO X.w a S n))) {h2 : Heap} {t2 c : Nat} (R : SetR X.w h2 s.heap.objs.size (fun j => decide (j ∈ ns)) c) (hc : c ≤ ns.length) (kp : ∀ b o, s.heap.get? b = some o → h2.get? b = some o) :
    EP X pins σ Q (.ref s.heap.objs.size) { s with heap := h2, toks := t2 } := by
  have fr : H s.heap.objs.size = none := I.hok.fresh (Nat.le_refl _)
  exact ⟨.ref _, _, I.laid (t' := t2) kp (Nat.le_refl _) (setO_new R), rfl, q _ _ c fr (fun k => decide_eq_true_iff) hc⟩
theorem cr_setI (hc : X.calm = true) : CallR X (.type "set") (rSetI X.K X.w) := by
  intro pins s σ H vs us Q I r h
  obtain ⟨p, ns, rfl, hq, hl, q⟩ := h
  have hd := I.ok.hd hc
  have hb : ns.length + 1 < scanBound := by unfold scanBound; omega
  rw [Vals.ref1 r]
  rcases hq with hq | hq
  · obtain ⟨its, rv, pt, _⟩ := I.tuple hq
    exact call_set_tupI ns hd (show s.heap.IsTuple p its.toArray from pt) (ints_of_vals rv) hb fun h2 t2 c R hn kp => set_laid I q R hn kp
  · obtain ⟨its, rv, pl, _⟩ := I.list hq
    refine set_from_list ns hd pl.isList (ints_of_vals rv) hb fun s2 left => ?_
    obtain ⟨h2, t2, c, rfl, R, hn, kp⟩ := left
    exact set_laid I q R hn kp
end
/-! ### the members in order -/
theorem nodup_eraseDupsI : ∀ (n : Nat) (ns : List Int), ns.length ≤ n → ns.eraseDups.Nodup
  | _, [], _ => List.nodup_nil
  | 0, x :: r, h => by rw [List.length_cons] at h; omega
  | n + 1, x :: r, h => by
    rw [List.length_cons] at h
    rw [List.eraseDups_cons, List.nodup_cons]
    refine ⟨fun hm => ?_, nodup_eraseDupsI n _ (Nat.le_trans (List.length_filter_le _ _) (by omega))⟩
    have := List.mem_eraseDups.mp hm
    rw [List.mem_filter] at this
    simp at this
def sortU (ns : List Int) : List Int := sortI ns.eraseDups
theorem sorted_lt_ext : ∀ (a b : List Int), a.Pairwise (· < ·) → b.Pairwise (· < ·) → (∀ k, k ∈ a ↔ k ∈ b) → a = b
  | [], [], _, _, _ => rfl
  | [], y :: b, _, _, h => absurd ((h y).mpr List.mem_cons_self) (by simp)
  | x :: a, [], _, _, h => absurd ((h x).mp List.mem_cons_self) (by simp)
  | x :: a, y :: b, ha, hb, h => by
    rw [List.pairwise_cons] at ha hb
    have e : x = y := by
      rcases List.mem_cons.mp ((h x).mp List.mem_cons_self) with e | e
      · exact e
      · rcases List.mem_cons.mp ((h y).mpr List.mem_cons_self) with e2 | e2
        · exact e2.symm
        · have := ha.1 y e2
          have := hb.1 x e
          omega
    subst e
    rw [sorted_lt_ext a b ha.2 hb.2 fun k => ?_]
    constructor
    · intro hk
      rcases List.mem_cons.mp ((h k).mp (.tail _ hk)) with e | e
      · have := ha.1 k hk
        omega
      · exact e
    · intro hk
      rcases List.mem_cons.mp ((h k).mpr (.tail _ hk)) with e | e
      · have := hb.1 k hk
        omega
      · exact e
theorem sortU_mem {ns : List Int} {k : Int} : k ∈ sortU ns ↔ k ∈ ns := by
  unfold sortU
  rw [(sortI_perm _).mem_iff, List.mem_eraseDups]
theorem sortU_lt (ns : List Int) : (sortU ns).Pairwise (· < ·) := by
  have h1 := sortI_sorted ns.eraseDups
  have h2 : (sortI ns.eraseDups).Nodup := (sortI_perm _).nodup_iff.mpr (nodup_eraseDupsI _ _ (Nat.le_refl _))
  unfold sortU
  refine (h1.and h2).imp fun {a b} h => ?_
  obtain ⟨x, y⟩ := h
  omega
/-! ### sorted(set(e)) -/
def seqOf (M : Mem) (a : AV) : Option (List D) := match tupOf a with
  | some xs => some xs
  | none => lstOf M a
def sortSetOp (a : AV) (M : Mem) : Out AV := match (tupOf a).bind ints?, (lstOf M a).bind ints? with
  | some ns, _ => if ns.length < 64 then .ok (.fr ((sortU ns).map D.int)) M else .bad
  | none, some ns => if ns.length < 64 then .ok (.fr ((sortU ns).map D.int)) M else .bad
  | none, none => .bad
def sSortSet (f : SE) : SE := sOne sortSetOp f
section
variable {G : Gm} {W Z : Addr → Prop} {φ : List Addr} {H : Hp} {M : Mem} {Q : VK} {E : XK} {v : V} {w : World}
theorem sortSet_run {a : AV} (R : Rel G W Z φ M H) (r : SR G (Bar W Z) φ H a v) (h : Run G Z φ W H (sortSetOp a M) Q E) : rSetI G.K w [v] H fun y H2 => rSortedSet w [y] H2 Q := by
  have main : ∀ ns : List Int, (∃ p, v = .ref p ∧ (SqT G.K H p (ns.map V.int) ∨ SqL G.K H p (ns.map V.int))) → Run G Z φ W H (if ns.length < 64 then .ok (.fr ((sortU ns).map D.int)) M else .bad) Q E → rSetI G.K w [v] H fun y H2 => rSortedSet w [y] H2 Q := fun ns ⟨p, e, hq⟩ h => by
    subst e
    split at h
    · rename_i h64
      refine ⟨p, ns, rfl, hq, by omega, fun a S n ha hS hn => ⟨a, S, n, rfl, upd_same, by omega, fun ms q hs hm _ hq => ?_⟩⟩
      have e : ms = sortU ns := sorted_lt_ext _ _ hs (sortU_lt ns) fun k => by rw [hm k, hS k, sortU_mem]
      subst e
      exact Run.new (R.laid0 ha) (Run.later (Ext.laid R ha) h) (RDs.of_ints _) q hq
    · exact h.elim
  unfold sortSetOp at h
  split at h
  · rename_i ns e
    obtain ⟨p, rfl, h1⟩ := Rel.tupInts r e
    exact main ns ⟨p, rfl, .inl h1⟩ h
  · rename_i _ ns _ e
    obtain ⟨p, rfl, h1⟩ := R.ints r e
    exact main ns ⟨p, rfl, .inr h1⟩ h
  · exact h.elim
end
section
variable {X : Cx} {E : WX} {e : Expr} {f : SE} {pos p p2 q : Pos}
theorem ge_sortset (hc : X.calm = true) (he : GE X E e f) (hg : Gl X "sorted") (hm : X.mg "sorted" = none) (hg2 : Gl X "set") (hm2 : X.mg "set" = none) (hs : starEach [e] X.env = [(false, eval e X.env)])
    (hs2 : starEach [.Call (.Name "set" p2) [e] [] q] X.env = [(false, eval (.Call (.Name "set" p2) [e] [] q) X.env)]) : GE X E (.Call (.Name "sorted" p) [.Call (.Name "set" p2) [e] [] q] [] pos) (sSortSet f) :=
  PE.imp (pe_callB (cr_sortedSet hc) hg hm boot_sorted (pa_cons (pe_callTy (cr_setI hc) hg2 hm2 PyProof.Rows.boot_set (pa_cons he pa_nil (hs := hs)) (he := hs)) pa_nil (hs := hs2)) (he := hs2)) fun σ H Q ⟨W, Z, φ, env, M, R, Er, h⟩ =>
    ⟨W, Z, φ, env, M, R, Er, (Run.bind h).imp fun v H1 ⟨W1, M1, x, _, R1, x1, r1, h2⟩ => sortSet_run R1 r1.sr h2⟩
end
end Mp

set_option maxHeartbeats 4000000
namespace Mp
open PySem L2 PySem.Spec PyProof.Rows

/-! ## calls without arguments; tuple(range(..)), list(range(..)); list.index -/
section
variable {X : Cx} {E : WX} {k : Nat} {p pos : Pos}
theorem ge_call0 {x : Str} {F : List AV → Mem → Out AV} (c : Cald X k x F) (hr : Room k X.A) (tk : Takes X E) (hg : Gl X x) (hdb : (x == ("__debug__" : Str)) = false) : GE X E (.Call (.Name x p) [] [] pos) (sArgs F sNil) := by
  obtain ⟨f, fd, ps, h1, h2, h3, h4⟩ := c.ex
  refine ⟨fun pins s σ H Q I h => ?_⟩
  obtain ⟨W, Z, φ, env, M, R, Er, h⟩ := h
  refine wpAny_Call_Name_kw (ld_glob I hg h1 ?_ hdb)
  exact PySem.W.callWith_K0 I.kIn h2 (run_fnS (E := fun σ c d H' => E c d σ H') (us := []) h4 hr h3 (passAt tk σ) I .nil ⟨W, Z, φ, M, [], R, trivial, h⟩)
end
/-! ### range brought into a tuple, a list -/
def rgOk (a b : Int) : Bool := decide (-(2 ^ 62) ≤ a ∧ a < 2 ^ 62 ∧ -(2 ^ 62) ≤ b ∧ b < 2 ^ 62 ∧ (b - a).toNat ≤ 2 ^ 24)
def rgTOp : AV → AV → Mem → Out AV
  | .d (.int a), .d (.int b), M => guard (rgOk a b) (.ok (.d (.tup (rngL a (b - a).toNat))) M)
  | _, _, _ => .bad
def rgLOp : AV → AV → Mem → Out AV
  | .d (.int a), .d (.int b), M => guard (rgOk a b) (.ok (.fr (rngL a (b - a).toNat)) M)
  | _, _, _ => .bad
def sRgT (f g : SE) : SE := sTwo rgTOp f g
def sRgL (f g : SE) : SE := sTwo rgLOp f g
def sRgT1 (f : SE) : SE := sOne (rgTOp (.d (.int 0))) f
def sRgL1 (f : SE) : SE := sOne (rgLOp (.d (.int 0))) f
section
variable {G : Gm} {W Z B : Addr → Prop} {φ : List Addr} {H : Hp} {M : Mem} {Q : VK} {E : XK} {v u : V}
theorem rds_rg (a b : Int) : RDs G B H (rngL a (b - a).toNat) (rgV a b) := by
  have h := RDs.of_ints (G := G) (W := B) (H := H) ((List.range (b - a).toNat).map fun k : Nat => a + (k : Int))
  rw [List.map_map, List.map_map] at h
  exact h
theorem rgT_run {x y : AV} (R : Rel G W Z φ M H) (r1 : SR G (Bar W Z) φ H x v) (r2 : SR G (Bar W Z) φ H y u) (h : Run G Z φ W H (rgTOp x y M) Q E) : ∃ i j, v = .int i ∧ u = .int j ∧ RgOk i j ∧ ∀ q, H q = none → Q (.ref q) (upd H q (.tup (rgV i j))) := by
  unfold rgTOp at h
  split at h
  · cases r1
    cases r2
    obtain ⟨g, h⟩ := guard_run (P := fun r => Run G Z φ W H r Q E) h (fun z => z)
    have g2 := of_decide_eq_true (show decide _ = true from g)
    exact ⟨_, _, rfl, rfl, g2, Run.tup R h (rds_rg _ _)⟩
  · exact h.elim
theorem rgL_run {x y : AV} (R : Rel G W Z φ M H) (r1 : SR G (Bar W Z) φ H x v) (r2 : SR G (Bar W Z) φ H y u) (h : Run G Z φ W H (rgLOp x y M) Q E) : ∃ i j, v = .int i ∧ u = .int j ∧ RgOk i j ∧ ∀ q, H q = none → Q (.ref q) (upd H q (.lst (rgV i j))) := by
  unfold rgLOp at h
  split at h
  · cases r1
    cases r2
    obtain ⟨g, h⟩ := guard_run (P := fun r => Run G Z φ W H r Q E) h (fun z => z)
    have g2 := of_decide_eq_true (show decide _ = true from g)
    exact ⟨_, _, rfl, rfl, g2, Run.new R h (rds_rg _ _)⟩
  · exact h.elim
end
section
variable {X : Cx} {E : WX} {a b : Expr} {f g : SE} {pos p p2 q : Pos}
theorem ge_rgT (hc : X.calm = true) (hg : Gl X "tuple") (hm : X.mg "tuple" = none) (hg2 : Gl X "range") (hm2 : X.mg "range" = none) (ha : GE X E a f) (hb : GE X E b g)
    (n1 : starEach [a, b] X.env = (false, eval a X.env) :: starEach [b] X.env) (n2 : starEach [b] X.env = (false, eval b X.env) :: starEach [] X.env) (n3 : (backTo q (starEach [b] X.env)).any (·.1) = false)
    (n4 : starEach [.Call (.Name "range" p2) [a, b] [] q] X.env = (false, eval (.Call (.Name "range" p2) [a, b] [] q) X.env) :: starEach [] X.env) : GE X E (.Call (.Name "tuple" p) [.Call (.Name "range" p2) [a, b] [] q] [] pos) (sRgT f g) :=
  PE.imp (pe_tupRg hc hg hm (prg_2 hg2 hm2 ha hb (na := n1) (nb := n2) (hp := n3)) (na := n4)) fun σ H Q ⟨W, Z, φ, env, M, R, Er, h⟩ =>
    ⟨W, Z, φ, env, M, R, Er, (Run.bind h).imp fun v H1 ⟨W1, M1, x, _, R1, x1, r1, h2⟩ =>
      ⟨W1, Z, φ, env, M1, R1, Er.ext x1.bar, (Run.bind h2).imp fun u H2 ⟨W2, M2, y, _, R2, x2, r2, h4⟩ => rgT_run R2 (r1.sr.ext x2.bar) r2.sr h4⟩⟩
theorem ge_rgL (hc : X.calm = true) (hg : Gl X "list") (hm : X.mg "list" = none) (hg2 : Gl X "range") (hm2 : X.mg "range" = none) (ha : GE X E a f) (hb : GE X E b g)
    (n1 : starEach [a, b] X.env = (false, eval a X.env) :: starEach [b] X.env) (n2 : starEach [b] X.env = (false, eval b X.env) :: starEach [] X.env) (n3 : (backTo q (starEach [b] X.env)).any (·.1) = false)
    (n4 : starEach [.Call (.Name "range" p2) [a, b] [] q] X.env = (false, eval (.Call (.Name "range" p2) [a, b] [] q) X.env) :: starEach [] X.env) : GE X E (.Call (.Name "list" p) [.Call (.Name "range" p2) [a, b] [] q] [] pos) (sRgL f g) :=
  PE.imp (pe_listRg hc hg hm (prg_2 hg2 hm2 ha hb (na := n1) (nb := n2) (hp := n3)) (na := n4)) fun σ H Q ⟨W, Z, φ, env, M, R, Er, h⟩ =>
    ⟨W, Z, φ, env, M, R, Er, (Run.bind h).imp fun v H1 ⟨W1, M1, x, _, R1, x1, r1, h2⟩ =>
      ⟨W1, Z, φ, env, M1, R1, Er.ext x1.bar, (Run.bind h2).imp fun u H2 ⟨W2, M2, y, _, R2, x2, r2, h4⟩ => rgL_run R2 (r1.sr.ext x2.bar) r2.sr h4⟩⟩
theorem ge_rgT1 (hc : X.calm = true) (hg : Gl X "tuple") (hm : X.mg "tuple" = none) (hg2 : Gl X "range") (hm2 : X.mg "range" = none) (ha : GE X E a f)
    (n1 : starEach [a] X.env = (false, eval a X.env) :: starEach [] X.env)
    (n4 : starEach [.Call (.Name "range" p2) [a] [] q] X.env = (false, eval (.Call (.Name "range" p2) [a] [] q) X.env) :: starEach [] X.env) : GE X E (.Call (.Name "tuple" p) [.Call (.Name "range" p2) [a] [] q] [] pos) (sRgT1 f) :=
  PE.imp (pe_tupRg hc hg hm (prg_1 hg2 hm2 ha (na := n1)) (na := n4)) fun σ H Q ⟨W, Z, φ, env, M, R, Er, h⟩ =>
    ⟨W, Z, φ, env, M, R, Er, (Run.bind h).imp fun v H1 ⟨W1, M1, x, _, R1, x1, r1, h2⟩ => by
      obtain ⟨i, j, e1, e2, ok, k⟩ := rgT_run (v := .int 0) R1 (show SR (gm X) _ φ H1 (.d (.int 0)) (.int 0) from RD.int 0) r1.sr h2
      cases e1
      exact ⟨j, e2, ok, k⟩⟩
theorem ge_rgL1 (hc : X.calm = true) (hg : Gl X "list") (hm : X.mg "list" = none) (hg2 : Gl X "range") (hm2 : X.mg "range" = none) (ha : GE X E a f)
    (n1 : starEach [a] X.env = (false, eval a X.env) :: starEach [] X.env)
    (n4 : starEach [.Call (.Name "range" p2) [a] [] q] X.env = (false, eval (.Call (.Name "range" p2) [a] [] q) X.env) :: starEach [] X.env) : GE X E (.Call (.Name "list" p) [.Call (.Name "range" p2) [a] [] q] [] pos) (sRgL1 f) :=
  PE.imp (pe_listRg hc hg hm (prg_1 hg2 hm2 ha (na := n1)) (na := n4)) fun σ H Q ⟨W, Z, φ, env, M, R, Er, h⟩ =>
    ⟨W, Z, φ, env, M, R, Er, (Run.bind h).imp fun v H1 ⟨W1, M1, x, _, R1, x1, r1, h2⟩ => by
      obtain ⟨i, j, e1, e2, ok, k⟩ := rgL_run (v := .int 0) R1 (show SR (gm X) _ φ H1 (.d (.int 0)) (.int 0) from RD.int 0) r1.sr h2
      cases e1
      exact ⟨j, e2, ok, k⟩⟩
end
/-! ### list.index of an int among ints -/
def sIndex (fo fe : SE) : SE := fun env M => (fo env M).bind fun o M1 => match lstOf M1 o with
  | none => .bad
  | some _ => (fe env M1).bind fun x M2 => match (lstOf M2 o).bind ints?, x with
    | some ns, .d (.int k) => if ns.idxOf k < ns.length then .ok (.d (.int (ns.idxOf k : Nat))) M2 else .bad
    | _, _ => .bad
section
variable {X : Cx} {E : WX} {o e : Expr} {fo fe : SE} {apos pos : Pos}
theorem flat_ints (ns : List Int) : (ns.map V.int).all flatV = true := by
  rw [List.all_map]
  exact List.all_eq_true.mpr fun n _ => rfl
theorem idxOf_get {ns : List Int} {k : Int} (h : ns.idxOf k < ns.length) : ns[ns.idxOf k]? = some k := by
  rw [List.getElem?_eq_getElem h, List.getElem_idxOf]
theorem idxOf_lt {ns : List Int} {k : Int} {m : Nat} (h : m < ns.idxOf k) : ns[m]? ≠ some k := fun e => by
  obtain ⟨hm, e⟩ := List.getElem?_eq_some_iff.mp e
  have := List.not_of_lt_findIdx (p := fun x => x == k) h
  rw [e] at this
  simp at this
theorem gm_index (ho : GE X E o fo) (he : GE X E e fe) (hbase : attributeBase o "index" X.env (eval o X.env) = eval o X.env)
    (hfew : ((backTo pos (starEach [e] X.env)).all (fun x => !x.1) && (backToKw pos (keywordEach [] X.env)).all (fun x => x.1.isSome) && decide (([e] : List Expr).length + ([] : List Keyword).length + (if ([] : List Keyword).isEmpty then 0 else 1) < 30)) = true)
    (hline : (apos.endLine == pos.line) = true) (hs : starEach [e] X.env = (false, eval e X.env) :: starEach [] X.env) (hplain : (backTo pos (starEach ([] : List Expr) X.env)).any (·.1) = false) :
    GE X E (.Call (.Attribute o "index" apos) [e] [] pos) (sIndex fo fe) :=
  PE.imp (pe_bm F.plainAttrs_list F.slot_list_index F.type_list_index mt_index ho (pa_cons he pa_nil hs) (hbase := hbase) (hfew := hfew) (hline := hline) (hs := hs) (hplain := hplain)) fun σ H Q ⟨W, Z, φ, env, M, R, Er, h⟩ =>
    ⟨W, Z, φ, env, M, R, Er, (Run.bind h).imp fun v H1 ⟨W1, M1, x, _, R1, x1, r1, h2⟩ => by
      cases e1 : lstOf M1 x with
      | none => rw [e1] at h2; exact h2.elim
      | some xs =>
        rw [e1] at h2
        dsimp only at h2
        obtain ⟨p, us, rfl, hq, _, _⟩ := R1.lst r1.sr e1
        refine ⟨.inl ⟨rfl, _, hq⟩, W1, Z, φ, env, M1, R1, Er.ext x1.bar, (Run.bind h2).imp fun u H2 ⟨W2, M2, y, _, R2, x2, r2, h3⟩ => ?_⟩
        split at h3
        · rename_i ns k e2 _
          split at h3
          · rename_i hk
            obtain ⟨p2, e3, h4⟩ := R2.ints (r1.sr.ext x2.bar) e2
            cases r2
            rw [e3]
            refine ⟨p2, ns.map V.int, .int k, ns.idxOf k, .int k, rfl, rfl, h4, rfl, flat_ints ns, ?_, ?_, fun m z hm hz => ?_, Run.ok R2 h3 (.int _) (fun _ z => by cases z)⟩
            · rw [List.getElem?_map, idxOf_get hk]
              rfl
            · simp [eqV]
            · rw [List.getElem?_map] at hz
              obtain ⟨n, hn, rfl⟩ := Option.map_eq_some_iff.mp hz
              have := idxOf_lt hm
              simp [eqV]
              intro e
              subst e
              exact this hn
          · exact h3.elim
        · exact h3.elim⟩
end
end Mp

namespace Mp
open PySem L2 PySem.Spec PyProof.Rows

/-! ## walks over mapped lists -/
section
variable {α : Type} {φ : α → D}
theorem comp_map {f : SE} {c : SB} {tg : Tg} {vs : List Nat} {env : Env} {M : Mem} (g : α → D) (p : α → Bool) : ∀ (xs : List α) (acc : List D),
    (∀ a ∈ xs, ∃ e, tg.bind (φ a) (wipeE env vs) = some e ∧ c e M = .ok (p a) M ∧ (p a = true → ∃ av, f e M = .ok av M ∧ keepD av M = some (g a, M))) → acc.length + xs.length ≤ 1000000 →
    compL f c tg vs [] env (xs.map φ) acc M = .ok (.fr (acc ++ (xs.filter p).map g)) M
  | [], acc, _, _ => by simp [compL, depsOk]
  | a :: r, acc, h, hl => by
    obtain ⟨e, e1, e2, e3⟩ := h a List.mem_cons_self
    have hr := fun d hd => h d (.tail _ hd)
    rw [List.length_cons] at hl
    rw [List.map_cons, compL, if_pos (by rfl), e1]
    dsimp only
    rw [e2]
    cases hp : p a with
    | false =>
      dsimp only
      rw [comp_map g p r acc hr (by omega), List.filter_cons_of_neg (by rw [hp]; decide)]
    | true =>
      obtain ⟨av, e4, e5⟩ := e3 hp
      dsimp only
      rw [e4]
      dsimp only
      rw [e5]
      dsimp only
      have hs : acc.length < sizeLine := Nat.lt_of_lt_of_le (show acc.length < 1000001 by omega) (by decide)
      rw [if_pos hs, comp_map g p r (acc ++ [g a]) hr (by rw [List.length_append, List.length_singleton]; omega), List.filter_cons_of_pos hp, List.map_cons, List.append_assoc, List.singleton_append]
theorem e_compM {β : Type} {kx : Exc → Mem → Out β} {res : Out β} {k : AV → Mem → Out β} {f : SE} {c : SB} {tg : Tg} {vs : List Nat} {env : Env} {M : Mem} (xs : List α) (g : α → D) (p : α → Bool)
    (h : ∀ a ∈ xs, ∃ e, tg.bind (φ a) (wipeE env vs) = some e ∧ c e M = .ok (p a) M ∧ (p a = true → ∃ av, f e M = .ok av M ∧ keepD av M = some (g a, M))) (hl : xs.length ≤ 1000000)
    (q : k (.fr ((xs.filter p).map g)) M = res) : el (compL f c tg vs [] env (xs.map φ) [] M) k kx = res := by
  rw [comp_map g p xs [] h (by simpa using hl)]
  exact q
/-- no condition -/
theorem e_compA {β : Type} {kx : Exc → Mem → Out β} {res : Out β} {k : AV → Mem → Out β} {f : SE} {tg : Tg} {vs : List Nat} {env : Env} {M : Mem} (xs : List α) (g : α → D)
    (h : ∀ a ∈ xs, ∃ e, tg.bind (φ a) (wipeE env vs) = some e ∧ ∃ av, f e M = .ok av M ∧ keepD av M = some (g a, M)) (hl : xs.length ≤ 1000000)
    (q : k (.fr (xs.map g)) M = res) : el (compL f sYes tg vs [] env (xs.map φ) [] M) k kx = res :=
  e_compM xs g (fun _ => true) (fun a ha => by
    obtain ⟨e, e1, av, e2⟩ := h a ha
    exact ⟨e, e1, rfl, fun _ => ⟨av, e2⟩⟩) hl (by rw [List.filter_eq_self.mpr (fun _ _ => rfl)]; exact q)
/-- a loop: what holds of what was walked -/
theorem for_pre {body : SS} {tg : Tg} {I : List α → Env → Mem → Prop} : ∀ (rest done : List α) (step : ∀ d a r, done ++ rest = d ++ a :: r → ∀ env M, I d env M → ∃ e env' M', tg.bind (φ a) env = some e ∧ body e M = .ok (.next env') M' ∧ I (d ++ [a]) env' M') (env : Env) (M : Mem), I done env M →
    ∃ env' M', forL body tg [] (rest.map φ) env M = .ok (.next env') M' ∧ I (done ++ rest) env' M'
  | [], done, _, env, M, h => ⟨env, M, rfl, by rw [List.append_nil]; exact h⟩
  | a :: r, done, step, env, M, h => by
    obtain ⟨e, env1, M1, e1, e2, h1⟩ := step done a r rfl env M h
    obtain ⟨env2, M2, e3, h2⟩ := for_pre r (done ++ [a]) (fun d b q hq => step d b q (by rw [← hq, List.append_assoc]; rfl)) env1 M1 h1
    refine ⟨env2, M2, ?_, by rw [List.append_assoc] at h2; exact h2⟩
    rw [List.map_cons, forL, if_pos (by rfl), e1]
    dsimp only
    rw [e2, Out.bind_ok]
    exact e3
theorem e_pre {β : Type} {kx : Exc → Mem → Out β} {res : Out β} {k : Fl → Mem → Out β} {body : SS} {tg : Tg} {env : Env} {M : Mem} (xs : List α) (I : List α → Env → Mem → Prop) (h0 : I [] env M)
    (step : ∀ d a r, xs = d ++ a :: r → ∀ env M, I d env M → ∃ e env' M', tg.bind (φ a) env = some e ∧ body e M = .ok (.next env') M' ∧ I (d ++ [a]) env' M') (h : ∀ env' M', I xs env' M' → k (.next env') M' = res) : el (forL body tg [] (xs.map φ) env M) k kx = res := by
  obtain ⟨env', M', e, q⟩ := for_pre (φ := φ) (I := I) xs [] (fun d a r e => step d a r (by simpa using e)) env M h0
  rw [e]
  exact h env' M' (by simpa using q)
/-- a loop over a range: the number of turns told -/
theorem e_rng {β : Type} {kx : Exc → Mem → Out β} {res : Out β} {k : Fl → Mem → Out β} {body : SS} {tg : Tg} {env : Env} {M : Mem} {lo : Int} {n : Nat} (I : Nat → Env → Mem → Prop) (h0 : I 0 env M)
    (step : ∀ i, i < n → ∀ env M, I i env M → ∃ e env' M', tg.bind (.int (lo + (i : Nat))) env = some e ∧ body e M = .ok (.next env') M' ∧ I (i + 1) env' M') (h : ∀ env' M', I n env' M' → k (.next env') M' = res) : el (forL body tg [] (rngL lo n) env M) k kx = res := by
  refine e_pre (φ := fun k : Nat => D.int (lo + (k : Nat))) (List.range n) (fun d env M => I d.length env M) h0 (fun d a r e env M hI => ?_) (fun env' M' hI => h env' M' (by rw [List.length_range] at hI; exact hI))
  have hd : a = d.length := by
    have := congrArg (fun l => l[d.length]?) e
    simp only [List.getElem?_append_right (Nat.le_refl _), Nat.sub_self, List.getElem?_cons_zero] at this
    rw [List.getElem?_eq_some_iff] at this
    obtain ⟨h1, h2⟩ := this
    rw [List.getElem_range] at h2
    exact h2.symm
  have hn : d.length < n := by
    have := congrArg List.length e
    rw [List.length_range, List.length_append, List.length_cons] at this
    omega
  subst hd
  rw [List.length_append, List.length_singleton]
  exact step _ hn env M hI
end
/-! ### zip of two rows of ints -/
theorem zipL_int2 : ∀ xs ys : List Int, zipL (xs.map .int) (ys.map .int) = (List.zip xs ys).map fun p => D.tup [.int p.1, .int p.2]
  | [], ys => by cases ys <;> rfl
  | _ :: _, [] => rfl
  | x :: xs, y :: ys => by
    show D.tup [.int x, .int y] :: zipL (xs.map .int) (ys.map .int) = _
    rw [zipL_int2 xs ys]
    rfl
theorem asc_zip : ∀ c : List Int, ((List.zip c c.tail).all fun p => decide (p.1 < p.2)) = true ↔ c.Pairwise (· < ·)
  | [] => by simp
  | [x] => by simp
  | x :: y :: r => by
    have ih := asc_zip (y :: r)
    rw [List.tail_cons] at ih
    rw [List.tail_cons, List.zip_cons_cons, List.all_cons, Bool.and_eq_true, ih, decide_eq_true_eq, List.pairwise_cons (a := x), List.pairwise_cons]
    constructor
    · rintro ⟨h1, h2, h3⟩
      refine ⟨fun z hz => ?_, h2, h3⟩
      rcases List.mem_cons.mp hz with rfl | hz
      · exact h1
      · have := h2 z hz
        have h1 : x < y := h1
        omega
    · rintro ⟨h1, h2, h3⟩
      exact ⟨h1 y List.mem_cons_self, h2, h3⟩
end Mp

namespace Mp
open PySem L2 PySem.Spec PyProof.Rows

/-! ## walks over range(n) -/
theorem rng0 (n : Nat) : rngL 0 n = (List.range n).map fun k : Nat => D.int (k : Int) := by
  unfold rngL
  refine List.map_congr_left fun k _ => ?_
  rw [Int.zero_add]
section
variable {β : Type} {kx : Exc → Mem → Out β} {res : Out β}
theorem e_compRF {k : AV → Mem → Out β} {f : SE} {c : SB} {tg : Tg} {vs : List Nat} {env : Env} {M : Mem} {n : Nat} (g : Nat → D) (p : Nat → Bool) (hl : n ≤ 1000000)
    (h : ∀ j : Nat, j < n → ∃ e, tg.bind (.int (j : Nat)) (wipeE env vs) = some e ∧ c e M = .ok (p j) M ∧ (p j = true → ∃ av, f e M = .ok av M ∧ keepD av M = some (g j, M))) (q : k (.fr (((List.range n).filter p).map g)) M = res) : el (compL f c tg vs [] env (rngL 0 n) [] M) k kx = res := by
  rw [rng0]
  exact e_compM (φ := fun k : Nat => D.int (k : Int)) (List.range n) g p (fun j hj => h j (List.mem_range.mp hj)) (by rw [List.length_range]; exact hl) q
theorem e_compR {k : AV → Mem → Out β} {f : SE} {tg : Tg} {vs : List Nat} {env : Env} {M : Mem} {n : Nat} (g : Nat → D) (hl : n ≤ 1000000)
    (h : ∀ j : Nat, j < n → ∃ e, tg.bind (.int (j : Nat)) (wipeE env vs) = some e ∧ ∃ av, f e M = .ok av M ∧ keepD av M = some (g j, M)) (q : k (.fr ((List.range n).map g)) M = res) : el (compL f sYes tg vs [] env (rngL 0 n) [] M) k kx = res := by
  rw [rng0]
  exact e_compA (φ := fun k : Nat => D.int (k : Int)) (List.range n) g (fun j hj => h j (List.mem_range.mp hj)) (by rw [List.length_range]; exact hl) q
theorem e_compR2F {k : AV → Mem → Out β} {f : SE} {c : SB} {tg : Tg} {vs : List Nat} {env : Env} {M : Mem} {lo : Int} {n : Nat} (g : Nat → D) (p : Nat → Bool) (hl : n ≤ 1000000)
    (h : ∀ j : Nat, j < n → ∃ e, tg.bind (.int (lo + (j : Nat))) (wipeE env vs) = some e ∧ c e M = .ok (p j) M ∧ (p j = true → ∃ av, f e M = .ok av M ∧ keepD av M = some (g j, M))) (q : k (.fr (((List.range n).filter p).map g)) M = res) : el (compL f c tg vs [] env (rngL lo n) [] M) k kx = res :=
  e_compM (φ := fun k : Nat => D.int (lo + (k : Nat))) (List.range n) g p (fun j hj => h j (List.mem_range.mp hj)) (by rw [List.length_range]; exact hl) q
end
theorem rng_at {n a : Nat} {d r : List Nat} (e : List.range n = d ++ a :: r) : a = d.length ∧ d.length < n := by
  have h1 := congrArg (fun l => l[d.length]?) e
  simp only [List.getElem?_append_right (Nat.le_refl _), Nat.sub_self, List.getElem?_cons_zero] at h1
  rw [List.getElem?_eq_some_iff] at h1
  obtain ⟨h1, h2⟩ := h1
  rw [List.getElem_range] at h2
  rw [List.length_range] at h1
  exact ⟨h2.symm, h1⟩
/-- a loop over range(n), a state folded -/
theorem for_rngF {S : Type} {body : SS} {tg : Tg} {n : Nat} (I : S → Env → Mem → Prop) (f : S → Nat → S) (s0 : S) (step : ∀ i s, i < n → s = (List.range i).foldl f s0 → ∀ env M, I s env M → ∃ e env' M', tg.bind (.int (i : Nat)) env = some e ∧ body e M = .ok (.next env') M' ∧ I (f s i) env' M') {env : Env} {M : Mem} (h : I s0 env M) :
    ∃ env' M', forL body tg [] (rngL 0 n) env M = .ok (.next env') M' ∧ I ((List.range n).foldl f s0) env' M' := by
  rw [rng0]
  obtain ⟨env', M', e, h2⟩ := for_pre (φ := fun k : Nat => D.int (k : Int)) (body := body) (tg := tg) (I := fun d env M => d = List.range d.length ∧ I (d.foldl f s0) env M) (List.range n) [] (fun d a r e env M hI => by
    obtain ⟨ha, hn⟩ := rng_at (show List.range n = d ++ a :: r by rw [← e]; rfl)
    obtain ⟨hd, hI⟩ := hI
    subst ha
    obtain ⟨e1, env', M', e2, e3, h3⟩ := step d.length (d.foldl f s0) hn (by rw [← hd]) env M hI
    refine ⟨e1, env', M', e2, e3, ?_, by rw [List.foldl_append]; exact h3⟩
    rw [List.length_append, List.length_singleton, List.range_succ, ← hd]) env M ⟨rfl, h⟩
  exact ⟨env', M', e, h2.2⟩
/-- a loop over mapped items, a state folded -/
theorem for_mapF {S α : Type} {φ : α → D} {body : SS} {tg : Tg} (I : S → Env → Mem → Prop) (f : S → α → S) (s0 : S) (xs : List α) (step : ∀ d a r, xs = d ++ a :: r → ∀ env M, I (d.foldl f s0) env M → ∃ e env' M', tg.bind (φ a) env = some e ∧ body e M = .ok (.next env') M' ∧ I (f (d.foldl f s0) a) env' M') {env : Env} {M : Mem} (h : I s0 env M) :
    ∃ env' M', forL body tg [] (xs.map φ) env M = .ok (.next env') M' ∧ I (xs.foldl f s0) env' M' := by
  obtain ⟨env', M', e, h2⟩ := for_pre (φ := φ) (body := body) (tg := tg) (I := fun d env M => I (d.foldl f s0) env M) xs [] (fun d a r e env M hI => by
    obtain ⟨e1, env', M', e2, e3, h3⟩ := step d a r (by rw [← e]; rfl) env M hI
    exact ⟨e1, env', M', e2, e3, by rw [List.foldl_append]; exact h3⟩) env M h
  exact ⟨env', M', e, by simpa using h2⟩
theorem any_congr {α : Type} {l : List α} {p q : α → Bool} (h : ∀ x ∈ l, p x = q x) : l.any p = l.any q := by
  induction l with
  | nil => rfl
  | cons x r ih => rw [List.any_cons, List.any_cons, h x List.mem_cons_self, ih fun y hy => h y (.tail _ hy)]
theorem all_congr {α : Type} {l : List α} {p q : α → Bool} (h : ∀ x ∈ l, p x = q x) : l.all p = l.all q := by
  induction l with
  | nil => rfl
  | cons x r ih => rw [List.all_cons, List.all_cons, h x List.mem_cons_self, ih fun y hy => h y (.tail _ hy)]
section
variable {β : Type} {kx : Exc → Mem → Out β} {res : Out β} {k : AV → Mem → Out β} {M M2 : Mem}
theorem p_cmpE {op : CmpOp} {x y v : AV} (e : cmpop op x y M = .ok v M2) (h : k v M2 = res) : el (cmpop op x y M) k kx = res := by rw [e]; exact h
theorem e_sortset {f : SE} {env : Env} (h : el (f env M) (fun x M1 => el (sortSetOp x M1) k kx) kx = res) : el (sSortSet f env M) k kx = res := by rw [← h]; exact el_bind _ _ _ _
theorem e_rgT {f g : SE} {env : Env} (h : el (f env M) (fun x M1 => el (g env M1) (fun y M2 => el (rgTOp x y M2) k kx) kx) kx = res) : el (sRgT f g env M) k kx = res := by
  rw [← h]
  unfold sRgT sTwo
  rw [el_bind]
  congr
  funext x M1
  rw [el_bind]
end
end Mp

namespace SrtO
open PySem PyProof PyProof.Rows
variable {prog : Program} {w : World} {A : Around} {E : Value → Shared → Prop} {s : Shared}
theorem collect_tuple {l : Addr} {vs : List Value} {Q : List Value → Shared → Prop} (hl : s.heap.IsTuple l vs.toArray)
    (h : Q vs { s with heap := (s.heap.push (seqObj "list" #[] 0)).update s.heap.objs.size (Obj.mapSeq (· ++ vs.toArray)) }) (hsz : vs.length ≤ sizeLine) :
    wpAny (model prog w) A (collect (.ref l)) Q E s := by
  obtain ⟨o, ho, hc, n, hd⟩ := id hl
  unfold collect
  refine wpAny_bind (wpAny_runValue (codeAny_builtin entry_proto_collect' ?_))
  show wpAny _ _ (do again (.builtin "list.__iadd__" ⟨[← newList [], .ref l], []⟩)) _ _ s
  refine wpAny_bind (wpAny_newList (wpAny_pure ⟨Code.quiet_builtin _ (by decide +kernel), codeAny_builtin entry_list_iadd' ?_⟩))
  show wpAny _ _ (Builtin.List.listExtendWith (.ref s.heap.objs.size) (.ref l) (.ref s.heap.objs.size)) _ _ { s with heap := s.heap.push (seqObj "list" #[] 0) }
  unfold Builtin.List.listExtendWith
  have ho' : (s.heap.push (seqObj "list" #[] 0)).get? l = some o := Heap.get?_push_of_some _ ho
  refine wpAny_bind (wpAny_typeOf (T := "tuple") ⟨o, ho', hc⟩ ?_)
  have ht : (Value.type "tuple" == Value.type "tuple") = true := by rfl
  rw [if_pos (by rw [ht]; simp)]
  refine wpAny_bind (listItems_at ho' hd ?_)
  refine wpAny_bind (listItems_at (xs := #[]) (n := 0) (Heap.get?_push_size _ rfl) rfl ?_)
  rw [if_neg (by simp)]
  refine wpAny_bind (listUpdate_at (xs := #[]) (n := 0) (Heap.get?_push_size _ rfl) rfl ?_ (Nat.zero_le _) (by show (#[] ++ vs.toArray).size ≤ sizeLine + 1; simp only [Array.size_append, List.size_toArray, List.length_nil]; omega))
  refine wpAny_pure ?_
  show wpAny (model prog w) A (do
      let o ← load s.heap.objs.size
      match o.data with
      | .seq xs _ => pure xs.toList
      | _ => unsupported "internal:collect") Q E { s with heap := (s.heap.push (seqObj "list" #[] 0)).update s.heap.objs.size (Obj.mapSeq (· ++ vs.toArray)) }
  refine wpAny_bind (wpAny_load (get?_update_seq (Heap.get?_push_size _ rfl) _) ?_)
  show wpAny _ _ (pure ((#[] : Array Value) ++ vs.toArray).toList) Q E _
  rw [show ((#[] : Array Value) ++ vs.toArray).toList = vs by simp]
  exact wpAny_pure h
theorem sorted_ordT {l : Addr} {vs : List Value} {ltv : Value → Value → Bool} {Q : Value → Shared → Prop} (O : Swo ltv) (hl : s.heap.IsTuple l vs.toArray) (hz : vs.length ≤ sizeLine)
    (hS : 2 ≤ vs.length → ∀ (h₁ : Heap) (a : Addr), h₁.get? a = some (seqObj "list" vs.toArray 0) → (∀ b o, s.heap.get? b = some o → b ≠ a ∧ h₁.get? b = some o) → SortableO prog w A.in1.in1 { s with heap := h₁ } a vs ltv)
    (h : ∀ out : List Value, Srtd ltv out → Stb ltv out vs → Q (.ref (s.heap.objs.size + 1)) { s with heap := sortedAll s.heap vs out.toArray }) :
    wpAny (model prog w) A (call (.builtin "sorted") [.ref l]) Q E s := by
  refine Calls.call_function_entry kind_sorted plain_sorted entry_sorted (args_sorted1 _) ?_
  unfold Builtin.«sorted»
  refine wpAny_bind (m := checkCount "sorted" 1 1 _) (wpAny_pure ?_)
  refine wpAny_bind (collect_tuple hl ?_ hz)
  refine wpAny_bind (wpAny_newList ?_ hz)
  have hsz : ((s.heap.push (seqObj "list" #[] 0)).update s.heap.objs.size (Obj.mapSeq (· ++ vs.toArray))).objs.size = s.heap.objs.size + 1 := by
    rw [Heap.size_update, size_push']
  have hoL : (((s.heap.push (seqObj "list" #[] 0)).update s.heap.objs.size (Obj.mapSeq (· ++ vs.toArray))).push (seqObj "list" vs.toArray 0)).get? (s.heap.objs.size + 1) = some (seqObj "list" vs.toArray 0) := by
    rw [← hsz]; exact Heap.get?_push_size _ rfl
  have keep : ∀ b o, s.heap.get? b = some o → b ≠ s.heap.objs.size + 1 ∧ (((s.heap.push (seqObj "list" #[] 0)).update s.heap.objs.size (Obj.mapSeq (· ++ vs.toArray))).push (seqObj "list" vs.toArray 0)).get? b = some o := fun b o q => by
    have hlt : b < s.heap.objs.size := Heap.lt_size q
    refine ⟨Nat.ne_of_lt (Nat.lt_succ_of_lt hlt), Heap.get?_push_of_some _ ?_⟩
    rw [Heap.get?_update_ne _ _ _ _ (Nat.ne_of_lt hlt)]
    exact Heap.get?_push_of_some _ q
  show wpAny _ _ _ _ _ { s with heap := ((s.heap.push (seqObj "list" #[] 0)).update s.heap.objs.size (Obj.mapSeq (· ++ vs.toArray))).push (seqObj "list" vs.toArray 0) }
  rw [hsz]
  refine wpAny_bind (wpAny_holding (wpAny_call_entry slot_list_sort ⟨_, hoL, rfl⟩ entry_list_sort (list_sort_ord O hoL hz (fun h2 => hS h2 _ _ hoL keep) fun out hs hb => ⟨_, rfl, ?_⟩) (args_list_sort _)))
  exact wpAny_pure ⟨_, rfl, h out hs hb⟩
end SrtO
namespace L2
open PySem PySem.Spec PyProof.Rows
/-- sorted(a tuple), ints -/
def rSortedTI (K : PySem.W.Frag) : List V → Hp → VK → Prop := fun vs H Q => ∃ (a : Addr) (ns : List Int), vs = [V.ref a] ∧ SqT K H a (ns.map V.int) ∧
  ∀ (ns' : List Int) (p : Addr), ns'.Perm ns → ns'.Pairwise (· ≤ ·) → H p = none → Q (.ref p) (upd H p (.lst (ns'.map V.int)))
section
variable {X : Cx}
theorem cr_sortedTI : CallR X (.builtin "sorted") (rSortedTI X.K) := by
  intro pins s σ H vs us Q I r h
  obtain ⟨a, ns, rfl, hs, q⟩ := h
  obtain ⟨its, rv, hl, hz⟩ := I.tuple hs
  rw [Vals.ref1 r]
  have hi := rv.ints
  refine SrtO.sorted_ordT SrtO.swo_int hl (by rw [← rv.length]; exact hz) (fun h2 h₁ a' _ _ => SrtO.ints_sortable hi h2) fun out h1 h2 => ?_
  obtain ⟨k1, k2, k3⟩ := SrtO.ints_out hi h1 h2
  obtain ⟨ep, he'⟩ := PyProof.Rows.sortedAll_at s.heap its out.toArray
  have hlen : ((out.map SrtO.iv).map V.int).length ≤ sizeLine := by
    rw [List.length_map, k2.length_eq]
    rw [List.length_map] at hz
    exact hz
  exact ⟨.ref _, upd H (s.heap.objs.size + 1) (.lst ((out.map SrtO.iv).map V.int)), I.laid (t' := s.toks) (fun _ _ => PyProof.Rows.sortedAll_old) (Nat.le_succ _) ⟨hlen, out, ep, vals_of_ints k1, he'⟩, rfl, q _ _ k2 k3 (I.hok.fresh (Nat.le_succ _))⟩
end
end L2
namespace Mp
open PySem L2 PySem.Spec PyProof.Rows
/-! ## sorted(xs): lists as before, and tuples of ints -/
def sorted3Op : List AV → Mem → Out AV
  | [a], M => match (tupOf a).bind ints? with
    | some ns => .ok (.fr ((sortI ns).map D.int)) M
    | none => sorted2Op [a] M
  | avs, M => sorted2Op avs M
section
variable {G : Gm} {W Z B : Addr → Prop} {φ : List Addr} {H : Hp} {M : Mem} {Q : VK} {E : XK} {avs : List AV} {vs : List V}
theorem sorted3_run (R : Rel G W Z φ M H) (r : SRs G (Bar W Z) φ H avs vs) (h : Run G Z φ W H (sorted3Op avs M) Q E) : rSortedTI G.K vs H Q ∨ (rSortedI G.K vs H Q ∨ rSortedDt G.K vs H Q) := by
  unfold sorted3Op at h
  split at h
  · split at h
    · rename_i ns e
      left
      obtain ⟨v, rfl, r1⟩ := r.one
      obtain ⟨p, rfl, h1⟩ := Rel.tupInts r1 e
      refine ⟨p, ns, rfl, h1, fun ms l hp hs hl => ?_⟩
      have e : ms = sortI ns := sorted_unique (hp.trans (sortI_perm ns).symm) hs (sortI_sorted ns)
      subst e
      exact Run.new R h (RDs.of_ints _) l hl
    · exact .inr (sorted2_run R r h)
  · exact .inr (sorted2_run R r h)
end
section
variable {X : Cx} {E : WX} {e : Expr} {es : List Expr} {l : SL} {pos p : Pos}
theorem gc_sorted3 (hu : X.A.units + 65 < cLine) (hc : X.calm = true) (hl : GL X E (e :: es) l) (he : starEach (e :: es) X.env = (false, eval e X.env) :: starEach es X.env) (hpl : (backTo pos (starEach es X.env)).any (·.1) = false) (hg : Gl X "sorted") (hm : X.mg "sorted" = none) : GE X E (.Call (.Name "sorted" p) (e :: es) [] pos) (sArgs sorted3Op l) :=
  ge_bi (fun h => pe_callB (cr_sortedTI.or (cr_sortedI.or (cr_sortedDt (by omega)))) hg hm boot_sorted h (he := he) (hpl := hpl)) hl fun W Z φ M H avs vs Q E R r h => sorted3_run R r h
end
theorem sorted_ti (c : List Int) (M : Mem) : sorted3Op [.d (ti c)] M = .ok (.fr ((sortI c).map .int)) M := by
  show (match (some (c.map D.int)).bind ints? with
    | some ns => Out.ok (AV.fr ((sortI ns).map D.int)) M
    | none => sorted2Op [.d (ti c)] M) = _
  rw [Option.bind_some, ints_map]
end Mp

set_option maxHeartbeats 4000000
namespace L2
open PySem PySem.Spec PyProof.Rows
section
variable {P : Program} {w : World} {A : Around} {E : Value → Shared → Prop} {s : Shared} {a : Addr}
theorem sorted_setB {S : Int → Bool} {n : Nat} {Q : Value → Shared → Prop} (R : SetR w s.heap a S n) (hh : A.handled = none)
    (hQ : ∀ s' p (out : Array Value) (c : Nat) (ns : List Int), (∀ b o, s.heap.get? b = some o → s'.heap.get? b = some o) → s'.gens = s.gens → s'.os = s.os → s.heap.objs.size ≤ p →
      s'.heap.get? p = some (seqObj "list" out c) → IntsAre out.toList ns → ns.Pairwise (· < ·) → (∀ k, k ∈ ns ↔ S k = true) → ns.length = n → Q (.ref p) s') :
    wpAny (model P w) A (call (.builtin "sorted") [.ref a]) Q E s := by
  obtain ⟨o, es, ep, t, ho, hex, hd, g, nd, hm, hb, hf, hn, hr, hl⟩ := R
  refine Calls.call_function_entry kind_sorted plain_sorted entry_sorted (args_sorted1 _) ?_
  unfold Builtin.«sorted»
  refine wpAny_bind (m := checkCount "sorted" 1 1 _) (wpAny_pure ?_)
  refine wpAny_bind (collect_set (A := A.in1) hh ⟨o, ho, hex.1, hd⟩ hf hb hr hl fun s1 vs k1 hz g1 o1 pm => ?_)
  have hvl : vs.length = es.size := by rw [pm.length_eq, List.length_map, Array.length_toList]
  have hsz : vs.length ≤ sizeLine := by rw [hvl]; exact fits_of_scanBound hb
  have hI : IntsAre vs (vs.map Builtin.Re.reRawOf) := ints_of vs fun v hv => by
    obtain ⟨e, he, q⟩ := List.mem_map.mp (pm.mem_iff.mp hv)
    obtain ⟨k, tk, h1, _⟩ := g e he
    exact ⟨k, tk, by rw [← q]; exact h1⟩
  have pk : (vs.map Builtin.Re.reRawOf).Perm (es.toList.map keyOf) := by
    have q := pm.map Builtin.Re.reRawOf
    rw [List.map_map] at q
    exact q
  refine wpAny_bind (wpAny_newList ?_ hsz)
  have hoL : (s1.heap.push (seqObj "list" vs.toArray 0)).get? s1.heap.objs.size = some (seqObj "list" vs.toArray 0) := Heap.get?_push_size _ rfl
  refine wpAny_bind (wpAny_holding (wpAny_call_entry slot_list_sort ⟨_, hoL, rfl⟩ entry_list_sort (SrtO.list_sort_ord SrtO.swo_int hoL hsz (fun h2 => SrtO.ints_sortable hI h2) fun out h1 h2 => ⟨_, rfl, ?_⟩) (args_list_sort _)))
  obtain ⟨a1, a2, a3⟩ := SrtO.ints_out hI h1 h2
  obtain ⟨c, hc⟩ := sortedHeap_at (vs := vs) (out := out.toArray) hoL
  have pn : (out.map SrtO.iv).Perm (es.toList.map keyOf) := a2.trans pk
  refine wpAny_pure ⟨_, rfl, hQ _ s1.heap.objs.size out.toArray c (out.map SrtO.iv) (fun b u e => ?_) g1 o1 hz hc a1 (lt_of_le_nodup _ a3 (pn.nodup_iff.mpr nd)) (fun k => by rw [pn.mem_iff, ← hm k]) ?_⟩
  · have q := k1 b u e
    have hlt := Heap.lt_size q
    show (sortedHeap (s1.heap.push (seqObj "list" vs.toArray 0)) s1.heap.objs.size vs out.toArray).get? b = some u
    rw [sortedHeap_old (Nat.ne_of_lt hlt) (by rw [size_push']; exact Nat.lt_succ_of_lt hlt)]
    exact Heap.get?_push_of_some _ q
  · rw [pn.length_eq, List.length_map, Array.length_toList]; exact hn
end
def rSortedSetB (w : World) : List V → Hp → VK → Prop := fun vs H Q => ∃ (a : Addr) (S : Int → Bool) (n : Nat), vs = [V.ref a] ∧ H a = some (SetO w a S n) ∧ n ≤ 4000 ∧
  ∀ (ns : List Int) (p : Addr), ns.Pairwise (· < ·) → (∀ k : Int, k ∈ ns ↔ S k = true) → ns.length = n → H p = none → Q (.ref p) (upd H p (.lst (ns.map V.int)))
section
variable {X : Cx}
theorem cr_sortedSetB (hc : X.calm = true) : CallR X (.builtin "sorted") (rSortedSetB X.w) := by
  intro pins s σ H vs us Q I r h
  obtain ⟨a, S, n, rfl, ha, h64, q⟩ := h
  have R := setO_get I ha
  rw [Vals.ref1 r]
  refine sorted_setB R (I.ok.hd hc) fun s' p out c ns k g o hp hg hi hs hm hl => ?_
  have hlen : (ns.map V.int).length ≤ sizeLine := by rw [List.length_map, hl, sizeLine_eq]; omega
  have hn : H p = none := I.hok.fresh hp
  have J : Inv X pins σ (upd H p (.lst (ns.map V.int))) { s with heap := s'.heap, gens := s'.gens, drawn := s'.drawn, toks := s'.toks } :=
    I.call (ch := []) (Un.laid k hp hn) (I.hok.laid k hp ⟨hlen, out.toList, c, vals_of_ints hi, hg⟩) (by rw [g]; exact I.bare) (fun _ z => nomatch z)
  have e : s' = { s with heap := s'.heap, gens := s'.gens, drawn := s'.drawn, toks := s'.toks } := by
    cases s'
    cases s
    cases o
    rfl
  rw [e]
  exact ⟨.ref p, _, J, rfl, q ns p hs hm hl hn⟩
end
end L2
namespace Mp
open PySem L2 PySem.Spec PyProof.Rows
/-! ## sorted(set(..)) of up to 4000 ints -/
/-- set(t), of a list or a tuple of ints -/
def rSetI2 (K : PySem.W.Frag) (w : World) : List V → Hp → VK → Prop := fun vs H Q => ∃ (p : Addr) (ns : List Int), vs = [V.ref p] ∧ (SqT K H p (ns.map V.int) ∨ SqL K H p (ns.map V.int)) ∧ ns.length ≤ 4000 ∧
  ∀ (a : Addr) (S : Int → Bool) (n : Nat), H a = none → (∀ k, S k = true ↔ k ∈ ns) → n ≤ ns.length → Q (.ref a) (upd H a (SetO w a S n))
section
variable {X : Cx}
theorem cr_setI2 (hc : X.calm = true) : CallR X (.type "set") (rSetI2 X.K X.w) := by
  intro pins s σ H vs us Q I r h
  obtain ⟨p, ns, rfl, hq, hl, q⟩ := h
  have hd := I.ok.hd hc
  have hb : ns.length + 1 < scanBound := by unfold scanBound; omega
  rw [Vals.ref1 r]
  rcases hq with hq | hq
  · obtain ⟨its, rv, pt, _⟩ := I.tuple hq
    exact call_set_tupI ns hd (show s.heap.IsTuple p its.toArray from pt) (ints_of_vals rv) hb fun h2 t2 c R hn kp => set_laid I q R hn kp
  · obtain ⟨its, rv, pl, _⟩ := I.list hq
    refine set_from_list ns hd pl.isList (ints_of_vals rv) hb fun s2 left => ?_
    obtain ⟨h2, t2, c, rfl, R, hn, kp⟩ := left
    exact set_laid I q R hn kp
end
def sortSet2Op (a : AV) (M : Mem) : Out AV := match (tupOf a).bind ints?, (lstOf M a).bind ints? with
  | some ns, _ => if ns.length ≤ 4000 then .ok (.fr ((sortU ns).map D.int)) M else .bad
  | none, some ns => if ns.length ≤ 4000 then .ok (.fr ((sortU ns).map D.int)) M else .bad
  | none, none => .bad
def sSortSet2 (f : SE) : SE := sOne sortSet2Op f
section
variable {G : Gm} {W Z : Addr → Prop} {φ : List Addr} {H : Hp} {M : Mem} {Q : VK} {E : XK} {v : V} {w : World}
theorem sortSet2_run {a : AV} (R : Rel G W Z φ M H) (r : SR G (Bar W Z) φ H a v) (h : Run G Z φ W H (sortSet2Op a M) Q E) : rSetI2 G.K w [v] H fun y H2 => rSortedSetB w [y] H2 Q := by
  have main : ∀ ns : List Int, (∃ p, v = .ref p ∧ (SqT G.K H p (ns.map V.int) ∨ SqL G.K H p (ns.map V.int))) → Run G Z φ W H (if ns.length ≤ 4000 then .ok (.fr ((sortU ns).map D.int)) M else .bad) Q E → rSetI2 G.K w [v] H fun y H2 => rSortedSetB w [y] H2 Q := fun ns ⟨p, e, hq⟩ h => by
    subst e
    split at h
    · rename_i h64
      refine ⟨p, ns, rfl, hq, by omega, fun a S n ha hS hn => ⟨a, S, n, rfl, upd_same, by omega, fun ms q hs hm _ hq => ?_⟩⟩
      have e : ms = sortU ns := sorted_lt_ext _ _ hs (sortU_lt ns) fun k => by rw [hm k, hS k, sortU_mem]
      subst e
      exact Run.new (R.laid0 ha) (Run.later (Ext.laid R ha) h) (RDs.of_ints _) q hq
    · exact h.elim
  unfold sortSet2Op at h
  split at h
  · rename_i ns e
    obtain ⟨p, rfl, h1⟩ := Rel.tupInts r e
    exact main ns ⟨p, rfl, .inl h1⟩ h
  · rename_i _ ns _ e
    obtain ⟨p, rfl, h1⟩ := R.ints r e
    exact main ns ⟨p, rfl, .inr h1⟩ h
  · exact h.elim
end
section
variable {X : Cx} {E : WX} {e : Expr} {f : SE} {pos p p2 q : Pos}
theorem ge_sortset2 (hc : X.calm = true) (he : GE X E e f) (hg : Gl X "sorted") (hm : X.mg "sorted" = none) (hg2 : Gl X "set") (hm2 : X.mg "set" = none) (hs : starEach [e] X.env = [(false, eval e X.env)])
    (hs2 : starEach [.Call (.Name "set" p2) [e] [] q] X.env = [(false, eval (.Call (.Name "set" p2) [e] [] q) X.env)]) : GE X E (.Call (.Name "sorted" p) [.Call (.Name "set" p2) [e] [] q] [] pos) (sSortSet2 f) :=
  PE.imp (pe_callB (cr_sortedSetB hc) hg hm boot_sorted (pa_cons (pe_callTy (cr_setI2 hc) hg2 hm2 PyProof.Rows.boot_set (pa_cons he pa_nil (hs := hs)) (he := hs)) pa_nil (hs := hs2)) (he := hs2)) fun σ H Q ⟨W, Z, φ, env, M, R, Er, h⟩ =>
    ⟨W, Z, φ, env, M, R, Er, (Run.bind h).imp fun v H1 ⟨W1, M1, x, _, R1, x1, r1, h2⟩ => sortSet2_run R1 r1.sr h2⟩
end
end Mp

set_option maxHeartbeats 4000000
namespace Mp
open PySem L2 PySem.Spec PyProof.Rows
section
variable {β : Type} {kx : Exc → Mem → Out β} {res : Out β} {k : AV → Mem → Out β}
theorem e_sortset2 {f : SE} {env : Env} {M : Mem} (h : el (f env M) (fun x M1 => el (sortSet2Op x M1) k kx) kx = res) : el (sSortSet2 f env M) k kx = res := by
  rw [← h]
  exact el_bind _ _ _ _
end
end Mp

set_option maxHeartbeats 4000000
namespace Mp
open PySem L2 PySem.Spec PyProof.Rows
/-! ## sorted(set(..)) of pairs of ints from 0 on -/
theorem sortedN_ext {α : Type} {le : α → α → Prop} (anti : ∀ a b, le a b → le b a → a = b) : ∀ (a b : List α), a.Pairwise le → b.Pairwise le → a.Nodup → b.Nodup → (∀ k, k ∈ a ↔ k ∈ b) → a = b
  | [], [], _, _, _, _, _ => rfl
  | [], y :: b, _, _, _, _, h => absurd ((h y).mpr List.mem_cons_self) (by simp)
  | x :: a, [], _, _, _, _, h => absurd ((h x).mp List.mem_cons_self) (by simp)
  | x :: a, y :: b, ha, hb, na, nb, h => by
    rw [List.pairwise_cons] at ha hb
    rw [List.nodup_cons] at na nb
    have e : x = y := by
      rcases List.mem_cons.mp ((h x).mp List.mem_cons_self) with e | e
      · exact e
      · rcases List.mem_cons.mp ((h y).mpr List.mem_cons_self) with e2 | e2
        · exact e2.symm
        · exact anti x y (ha.1 y e2) (hb.1 x e)
    subst e
    rw [sortedN_ext anti a b ha.2 hb.2 na.2 nb.2 fun k => ?_]
    constructor
    · intro hk
      rcases List.mem_cons.mp ((h k).mp (.tail _ hk)) with e | e
      · subst e; exact absurd hk na.1
      · exact e
    · intro hk
      rcases List.mem_cons.mp ((h k).mpr (.tail _ hk)) with e | e
      · subst e; exact absurd hk nb.1
      · exact e
theorem nodup_eraseDupsL : ∀ (n : Nat) (ns : List (List Int)), ns.length ≤ n → ns.eraseDups.Nodup
  | _, [], _ => List.nodup_nil
  | 0, x :: r, h => by rw [List.length_cons] at h; omega
  | n + 1, x :: r, h => by
    rw [List.length_cons] at h
    rw [List.eraseDups_cons, List.nodup_cons]
    refine ⟨fun hm => ?_, nodup_eraseDupsL n _ (Nat.le_trans (List.length_filter_le _ _) (by omega))⟩
    have := List.mem_eraseDups.mp hm
    rw [List.mem_filter] at this
    simp at this
def sortP (L : List (List Int)) : List (List Int) := L.eraseDups.mergeSort leI
theorem leI_trans (a b c : List Int) : leI a b = true → leI b c = true → leI a c = true := fun h1 h2 => decide_eq_true (List.le_trans (of_decide_eq_true h1) (of_decide_eq_true h2))
theorem leI_total (a b : List Int) : (leI a b || leI b a) = true := by
  rcases List.le_total a b with h | h
  · show (decide (a ≤ b) || _) = true
    rw [decide_eq_true h]; rfl
  · show (_ || decide (b ≤ a)) = true
    rw [decide_eq_true h, Bool.or_true]
theorem leI_anti (a b : List Int) (h1 : leI a b = true) (h2 : leI b a = true) : a = b := List.le_antisymm (of_decide_eq_true h1) (of_decide_eq_true h2)
theorem sortP_mem {L : List (List Int)} {k : List Int} : k ∈ sortP L ↔ k ∈ L := by
  unfold sortP
  rw [List.mem_mergeSort, List.mem_eraseDups]
theorem sortP_asc (L : List (List Int)) : (sortP L).Pairwise fun a b => leI a b = true := List.pairwise_mergeSort leI_trans leI_total _
theorem sortP_nodup (L : List (List Int)) : (sortP L).Nodup := (List.mergeSort_perm _ _).nodup_iff.mpr (nodup_eraseDupsL _ _ (Nat.le_refl _))
/-- whatever ascends, with no item twice and the same items, is it -/
theorem sortP_is {L A : List (List Int)} (h1 : A.Pairwise fun a b => leI a b = true) (h2 : A.Nodup) (h : ∀ k, k ∈ A ↔ k ∈ L) : A = sortP L :=
  sortedN_ext leI_anti _ _ h1 (sortP_asc L) h2 (sortP_nodup L) fun k => by rw [h, sortP_mem]
def pairB (c : List Int) : Bool := match c with
  | [a, b] => decide (0 ≤ a) && decide (0 ≤ b)
  | _ => false
theorem pairB_ok {c : List Int} (h : pairB c = true) : ∃ a b, c = [a, b] ∧ 0 ≤ a ∧ 0 ≤ b := by
  unfold pairB at h
  split at h
  · rename_i a b
    rw [Bool.and_eq_true] at h
    exact ⟨a, b, rfl, of_decide_eq_true h.1, of_decide_eq_true h.2⟩
  · cases h
def sortSet3Op (a : AV) (M : Mem) : Out AV := match (lstOf M a).bind tupsI? with
  | some (c :: L) => if ((c :: L).all pairB && decide ((c :: L).length < 64)) = true then .ok (.fr ((sortP (c :: L)).map ti)) M else .bad
  | _ => sortSet2Op a M
def sSortSet3 (f : SE) : SE := sOne sortSet3Op f
theorem zip_addr {G : Gm} {B : Addr → Prop} {H : Hp} : ∀ {zs : List (V × List Int)}, (∀ z ∈ zs, RD G B H (ti z.2) z.1) → ∃ ks : List (Addr × List Int), zs = ks.map fun p => (V.ref p.1, p.2)
  | [], _ => ⟨[], rfl⟩
  | (v, c) :: zs, h => by
    obtain ⟨ks, e⟩ := zip_addr fun z hz => h z (.tail _ hz)
    have h1 : RD G B H (.tup (c.map .int)) v := h (v, c) List.mem_cons_self
    cases h1 with
    | @tup a _ _ h2 h3 => exact ⟨(a, c) :: ks, by rw [List.map_cons, ← e]⟩
theorem sq_of {G : Gm} {B : Addr → Prop} {H : Hp} {a : Addr} {c : List Int} (h : RD G B H (ti c) (.ref a)) : SqT G.K H a (c.map V.int) := by
  have h1 : RD G B H (.tup (c.map .int)) (.ref a) := h
  cases h1 with
  | tup h2 h3 =>
    rw [h3.ints] at h2
    exact h2.sq
theorem code_le {B : Int} {p q : List Int} (hp : pairB p = true) (hq : pairB q = true) (b1 : TS.Bd B p) (b2 : TS.Bd B q) (h : TS.code B p ≤ TS.code B q) : leI p q = true := by
  obtain ⟨a, b, rfl, _, _⟩ := pairB_ok hp
  obtain ⟨c, d, rfl, _, _⟩ := pairB_ok hq
  have h1 := code_lex b1 b2 h
  refine decide_eq_true ?_
  rw [List.cons_le_cons_iff]
  rcases h1 with h1 | ⟨rfl, h1⟩
  · exact .inl h1
  · refine .inr ⟨rfl, ?_⟩
    rw [List.cons_le_cons_iff]
    rcases Int.lt_or_eq_of_le h1 with h2 | rfl
    · exact .inl h2
    · exact .inr ⟨rfl, List.le_refl _⟩
theorem bd_ex : ∀ L : List (List Int), (∀ c ∈ L, pairB c = true) → ∃ B : Int, ∀ c ∈ L, TS.Bd B c
  | [], _ => ⟨0, fun c h => nomatch h⟩
  | x :: L, h => by
    obtain ⟨B, hB⟩ := bd_ex L fun c hc => h c (.tail _ hc)
    obtain ⟨a, b, rfl, ha, hb⟩ := pairB_ok (h x List.mem_cons_self)
    refine ⟨max B (max (a + 1) (b + 1)), fun c hc m hm => ?_⟩
    rcases List.mem_cons.mp hc with rfl | hc
    · simp only [List.mem_cons, List.not_mem_nil, or_false] at hm
      rcases hm with rfl | rfl <;> omega
    · have := hB c hc m hm
      omega
section
variable {G : Gm} {W Z : Addr → Prop} {φ : List Addr} {H : Hp} {M : Mem} {Q : VK} {E : XK} {v : V} {P : Program} {w : World}
theorem sortSet3_run {a : AV} (R : Rel G W Z φ M H) (r : SR G (Bar W Z) φ H a v) (h : Run G Z φ W H (sortSet3Op a M) Q E) :
    (rSetOfT G.K P w [v] H fun y H2 => rSortedT G.K P w [y] H2 Q) ∨ (rSetI2 G.K w [v] H fun y H2 => rSortedSetB w [y] H2 Q) := by
  unfold sortSet3Op at h
  split at h
  · rename_i c0 L0 e
    left
    split at h
    · rename_i hc
      rw [Bool.and_eq_true] at hc
      obtain ⟨xs, e1, e2⟩ := Option.bind_eq_some_iff.mp e
      have e3 := tupsI_ok e2
      generalize hLL : c0 :: L0 = L at *
      subst e3
      obtain ⟨p, us, rfl, hq, hr, _⟩ := R.lst r e1
      obtain ⟨zs, z1, z2, z3⟩ := zip_rds hr
      obtain ⟨ks, rfl⟩ := zip_addr z3
      rw [List.map_map] at z1 z2
      have z1 : ks.map (fun p => V.ref p.1) = us := z1
      have z2 : ks.map (·.2) = L := z2
      have z3 : ∀ q ∈ ks, RD G (Bar W Z) H (ti q.2) (.ref q.1) := fun q hq => z3 (V.ref q.1, q.2) (List.mem_map.mpr ⟨q, hq, rfl⟩)
      have hP : ∀ q ∈ ks, pairB q.2 = true := fun q hq => List.all_eq_true.mp hc.1 q.2 (by rw [← z2]; exact List.mem_map.mpr ⟨q, hq, rfl⟩)
      have hlen : ks.length < 64 := by
        have := of_decide_eq_true hc.2
        rw [← z2, List.length_map] at this
        exact this
      refine ⟨p, ks, rfl, by rw [z1]; exact hq, fun q hq => sq_of (z3 q hq), hlen, fun s LL hs hsub hall => ?_⟩
      have hsubP : ∀ c ∈ LL.map (·.2), pairB c = true := fun c hc => by
        obtain ⟨q, hq, rfl⟩ := List.mem_map.mp hc
        exact hP q (hsub q hq)
      obtain ⟨B, hB⟩ := bd_ex _ hsubP
      have x := Ext.laid (o := SetTO P w s LL) R hs
      have z4 : ∀ q ∈ LL, RD G (Bar W Z) (upd H s (SetTO P w s LL)) (ti q.2) (.ref q.1) := fun q hq => RD.ext x.bar (z3 q (hsub q hq))
      refine ⟨s, LL, 2, B, rfl, upd_same, fun q hq => sq_of (z4 q hq), by decide, fun q hq => ?_, fun L' p' hperm hnd hl hpw hp' => ?_⟩
      · have h1 := hP q (hsub q hq)
        obtain ⟨a, b, e, _, _⟩ := pairB_ok h1
        exact ⟨by rw [e]; rfl, hB _ (List.mem_map.mpr ⟨q, hq, rfl⟩)⟩
      · have hmem : ∀ q ∈ L', q ∈ LL := fun q hq => hperm.mem_iff.mp hq
        have eS : L'.map (·.2) = sortP L := by
          refine sortP_is ?_ hnd fun k => ?_
          · rw [List.pairwise_map]
            refine List.Pairwise.imp_of_mem (fun {q r} hq hr h => ?_) hpw
            exact code_le (hP q (hsub q (hmem q hq))) (hP r (hsub r (hmem r hr))) (hB _ (List.mem_map.mpr ⟨q, hmem q hq, rfl⟩)) (hB _ (List.mem_map.mpr ⟨r, hmem r hr, rfl⟩)) h
          · rw [← z2]
            constructor
            · intro hk
              obtain ⟨q, hq, rfl⟩ := List.mem_map.mp hk
              exact List.mem_map.mpr ⟨q, hsub q (hmem q hq), rfl⟩
            · intro hk
              obtain ⟨q, hq, rfl⟩ := List.mem_map.mp hk
              have := hall q hq
              exact (hperm.map (·.2)).mem_iff.mpr this
        rw [← eS] at h
        have z5 : RDs G (Bar W Z) (upd H s (SetTO P w s LL)) ((L'.map (·.2)).map ti) (L'.map fun q => V.ref q.1) := by
          have := rds_zip (G := G) (B := Bar W Z) (H := upd H s (SetTO P w s LL)) (zs := L'.map fun q => (V.ref q.1, q.2)) fun z hz => by
            obtain ⟨q, hq, rfl⟩ := List.mem_map.mp hz
            exact z4 q (hmem q hq)
          have e1 : (L'.map fun q => (V.ref q.1, q.2)).map (·.2) = L'.map (·.2) := by rw [List.map_map]; rfl
          have e2 : (L'.map fun q => (V.ref q.1, q.2)).map (·.1) = L'.map fun q => V.ref q.1 := by rw [List.map_map]; rfl
          rw [e1, e2] at this
          exact this
        exact Run.new (R.laid0 hs) (Run.later x h) z5 p' hp'
    · exact h.elim
  · exact .inr (sortSet2_run R r h)
end
section
variable {X : Cx} {E : WX} {e : Expr} {f : SE} {pos p p2 q : Pos}
theorem ge_sortset3 (hu : X.A.units + 65 < cLine) (hc : X.calm = true) (he : GE X E e f) (hg : Gl X "sorted") (hm : X.mg "sorted" = none) (hg2 : Gl X "set") (hm2 : X.mg "set" = none) (hs : starEach [e] X.env = [(false, eval e X.env)])
    (hs2 : starEach [.Call (.Name "set" p2) [e] [] q] X.env = [(false, eval (.Call (.Name "set" p2) [e] [] q) X.env)]) : GE X E (.Call (.Name "sorted" p) [.Call (.Name "set" p2) [e] [] q] [] pos) (sSortSet3 f) :=
  PE.imp (pe_callB ((cr_sortedT hc).or (cr_sortedSetB hc)) hg hm boot_sorted (pa_cons (pe_callTy ((cr_setOfT hc (by omega)).or (cr_setI2 hc)) hg2 hm2 PyProof.Rows.boot_set (pa_cons he pa_nil (hs := hs)) (he := hs)) pa_nil (hs := hs2)) (he := hs2)) fun σ H Q ⟨W, Z, φ, env, M, R, Er, h⟩ =>
    ⟨W, Z, φ, env, M, R, Er, (Run.bind h).imp fun v H1 ⟨W1, M1, x, _, R1, x1, r1, h2⟩ => by
      rcases sortSet3_run R1 r1.sr h2 with h3 | h3
      · obtain ⟨l, ks, e1, e2, e3, e4, q⟩ := h3
        exact .inl ⟨l, ks, e1, e2, e3, e4, fun a L ha h5 h6 => .inl (q a L ha h5 h6)⟩
      · obtain ⟨p, ns, e1, e2, e3, q⟩ := h3
        exact .inr ⟨p, ns, e1, e2, e3, fun a S n ha h5 h6 => .inr (q a S n ha h5 h6)⟩⟩
end
section
variable {β : Type} {kx : Exc → Mem → Out β} {res : Out β} {k : AV → Mem → Out β}
theorem e_sortset3 {f : SE} {env : Env} {M : Mem} (h : el (f env M) (fun x M1 => el (sortSet3Op x M1) k kx) kx = res) : el (sSortSet3 f env M) k kx = res := by
  rw [← h]
  exact el_bind _ _ _ _
theorem ints_tis {c : List Int} {L : List (List Int)} : ((c :: L).map ti).head? = some (ti c) := rfl
theorem tups_map : ∀ L : List (List Int), tupsI? (L.map ti) = some L
  | [] => rfl
  | c :: L => by
    show (match tupI? (ti c), tupsI? (L.map ti) with
      | some a, some l => some (a :: l)
      | _, _ => none) = _
    rw [tups_map L, show tupI? (ti c) = some c from ints_map c]
theorem sortSet3_l {L : List (List Int)} {M : Mem} (h0 : L ≠ []) (h1 : ∀ c ∈ L, pairB c = true) (h2 : L.length < 64) : sortSet3Op (.d (.lst (L.map ti))) M = .ok (.fr ((sortP L).map ti)) M := by
  cases L with
  | nil => exact absurd rfl h0
  | cons c L =>
    unfold sortSet3Op
    have e : (lstOf M (.d (.lst ((c :: L).map ti)))).bind tupsI? = some (c :: L) := tups_map (c :: L)
    rw [e]
    dsimp only
    rw [if_pos]
    rw [List.all_eq_true.mpr h1, decide_eq_true h2]
    rfl
end
end Mp

set_option maxHeartbeats 4000000
namespace Mp
open PySem L2 PySem.Spec PyProof.Rows
/-! ## constants of the module that are tuples -/
/-- a datum in the frozen part -/
def KD (K : PySem.W.Frag) (d : D) (u : Value) : Prop := ∃ v : V, RelV v u ∧ ∀ (mg : Str → Option Value) (B : Addr → Prop) (H : Hp), RD ⟨K, mg⟩ B H d v
def KDs (K : PySem.W.Frag) (ds : List D) (us : List Value) : Prop := ∃ vs : List V, Vals vs us ∧ ∀ (mg : Str → Option Value) (B : Addr → Prop) (H : Hp), RDs ⟨K, mg⟩ B H ds vs
theorem kd_int {K : PySem.W.Frag} {n : Int} {t : Tok} : KD K (.int n) (.int n t) := ⟨.int n, ⟨t, rfl⟩, fun _ _ _ => .int n⟩
theorem kd_str {K : PySem.W.Frag} {n : Str} {t : Tok} : KD K (.str n) (.str n t) := ⟨.str n, ⟨t, rfl⟩, fun _ _ _ => .str n⟩
theorem kds_nil {K : PySem.W.Frag} : KDs K [] [] := ⟨[], .nil, fun _ _ _ => .nil⟩
theorem kds_cons {K : PySem.W.Frag} {d : D} {ds : List D} {u : Value} {us : List Value} (h : KD K d u) (hs : KDs K ds us) : KDs K (d :: ds) (u :: us) := by
  obtain ⟨v, r, e⟩ := h
  obtain ⟨vs, rs, es⟩ := hs
  exact ⟨v :: vs, .cons r rs, fun mg B H => .cons (e mg B H) (es mg B H)⟩
theorem kd_tup {K : PySem.W.Frag} {a : Addr} {oc : Value} {od : Option Addr} {its : Array Value} {n : Nat} {sl : Array (Option Value)} {ds : List D} (kt : ktOn = true) (l : K.lookup a = some ⟨oc, od, .seq its n, sl⟩) (hc : oc = .type "tuple") (hz : its.size ≤ 1000) (hs : KDs K ds its.toList) : KD K (.tup ds) (.ref a) := by
  obtain ⟨vs, rs, es⟩ := hs
  exact ⟨.ref a, rfl, fun mg B H => .tup (.inr ⟨kt, _, its, n, l, hc, rfl, Nat.le_trans hz (by decide), rs⟩) (es mg B H)⟩
theorem Cst.of_kd {K : PySem.W.Frag} {mg : Str → Option Value} {x : Str} {d : D} {u : Value} (h : mg x = some u) (k : KD K d u) : Cst ⟨K, mg⟩ x d := by
  obtain ⟨v, r, e⟩ := k
  exact ⟨⟨u, v, h, r, fun B H => e mg B H⟩⟩
end Mp

set_option maxHeartbeats 4000000
namespace Mp
open PySem L2 PySem.Spec PyProof.Rows
/-! ## sum of a tuple of ints -/
section
variable {prog : Program} {w : World} {A : Around} {E : Value → Shared → Prop} {s : Shared} {l : Addr} {xs : Array (Int × Tok)}
theorem sum_intTup {Q : Value → Shared → Prop} (hh : A.handled = none) (hl : s.heap.IsTuple l (intItems xs))
    (h : ∀ h' tk t', (∀ b o, s.heap.get? b = some o → h'.get? b = some o) → Q (.int (preSum (numAt xs) xs.size) t') { s with heap := h', toks := tk }) :
    wpAny (model prog w) A (call (.builtin "sum") [.ref l]) Q E s := by
  have hlt : l < s.heap.objs.size := by obtain ⟨_, e, _⟩ := hl; exact Heap.lt_size e
  refine call_sum_walkG (wpAny_pyIter_tuple hl ?_)
  refine ⟨_, [_, l], [_], _, _, _, numAt xs, rfl, Walks.tuple (A := A.in1) hh _ l (Nat.ne_of_lt hlt) (intItems xs), ⟨⟨_, Heap.get?_push_size _ rfl, rfl, rfl⟩, hl.push _⟩, fun b hb => ?_, (fun _ _ => intItems_at), fun h' tk t' hk => ?_⟩
  · show b < (s.heap.push _).objs.size
    rw [Heap.size_push]
    rcases List.mem_cons.mp hb with rfl | hb
    · exact Nat.lt_succ_self _
    · rcases List.mem_cons.mp hb with rfl | hb
      · exact Nat.lt_succ_of_lt hlt
      · cases hb
  · have := h h' tk t' (fun b o e => by
      refine hk b o (fun hm => ?_) (Heap.get?_push_of_some _ e)
      rcases List.mem_cons.mp hm with e1 | hm
      · exact absurd (e1 ▸ Heap.lt_size e) (Nat.lt_irrefl _)
      · cases hm)
    simpa [intItems] using this
end
def rSumT (K : PySem.W.Frag) : List V → Hp → VK → Prop := fun vs H Q => ∃ (a : Addr) (ns : List Int), vs = [V.ref a] ∧ SqT K H a (ns.map V.int) ∧ Q (.int ns.sum) H
theorem cr_sumT {X : Cx} (hc : X.calm = true) : CallR X (.builtin "sum") (rSumT X.K) := by
  intro pins s σ H vs us Q I r h
  obtain ⟨a, ns, rfl, hs, q⟩ := h
  obtain ⟨its, rv, ht, _⟩ := I.tuple hs
  rw [Vals.ref1 r]
  have hi := rv.ints
  obtain ⟨xs, e⟩ := hi.allInts.items
  have hn : numsOf (intItems xs).toList = ns := by rw [← e]; exact hi.numsOf
  rw [nums_intItems] at hn
  rw [e] at ht
  refine sum_intTup (I.ok.hd hc) ht fun h' tk t' hk => ?_
  rw [preSum_eq, List.take_of_length_le (by simp), hn]
  exact ⟨.int _, H, I.kept hk, ⟨_, rfl⟩, q⟩
def sum2Op : List AV → Mem → Out AV
  | [a], M => match (tupOf a).bind ints? with
    | some ns => .ok (.d (.int ns.sum)) M
    | _ => sumOp [a] M
  | avs, M => sumOp avs M
section
variable {G : Gm} {W Z B : Addr → Prop} {φ : List Addr} {H : Hp} {M : Mem} {Q : VK} {E : XK} {avs : List AV} {vs : List V}
theorem sum2_run (R : Rel G W Z φ M H) (r : SRs G (Bar W Z) φ H avs vs) (h : Run G Z φ W H (sum2Op avs M) Q E) : rSumT G.K vs H Q ∨ rSum G.K vs H Q := by
  unfold sum2Op at h
  split at h
  · split at h
    · rename_i ns e
      left
      obtain ⟨v, rfl, r1⟩ := r.one
      obtain ⟨p, rfl, h1⟩ := Rel.tupInts r1 e
      exact ⟨p, ns, rfl, h1, Run.ok R h (.int _) (fun _ z => by cases z)⟩
    · exact .inr (sum_run R r h)
  · exact .inr (sum_run R r h)
end
section
variable {X : Cx} {E : WX} {e : Expr} {es : List Expr} {l : SL} {pos p : Pos}
theorem gc_sum2 (hc : X.calm = true) (hl : GL X E (e :: es) l) (he : starEach (e :: es) X.env = (false, eval e X.env) :: starEach es X.env) (hpl : (backTo pos (starEach es X.env)).any (·.1) = false) (hg : Gl X "sum") (hm : X.mg "sum" = none) : GE X E (.Call (.Name "sum" p) (e :: es) [] pos) (sArgs sum2Op l) :=
  ge_bi (fun h => pe_callB ((cr_sumT hc).or (cr_sum hc)) hg hm boot_sum h (he := he) (hpl := hpl)) hl fun W Z φ M H avs vs Q E R r h => sum2_run R r h
end
section
variable {β : Type} {kx : Exc → Mem → Out β} {res : Out β} {k : AV → Mem → Out β} {M : Mem}
theorem sum2_t {ns : List Int} : sum2Op [.d (ti ns)] M = .ok (.d (.int ns.sum)) M := by
  show (match (some (ns.map D.int)).bind ints? with
    | some ns => Out.ok (AV.d (.int ns.sum)) M
    | _ => sumOp [.d (ti ns)] M) = _
  rw [Option.bind_some, ints_map]
theorem sum2_l {ns : List Int} : sum2Op [.d (.lst (ns.map .int))] M = .ok (.d (.int ns.sum)) M := by
  show (match (some (ns.map D.int)).bind ints? with
    | some ns => Out.ok (AV.d (.int ns.sum)) M
    | none => .bad) = _
  rw [Option.bind_some, ints_map]
end
end Mp

set_option maxHeartbeats 4000000
namespace Mp
open PySem L2 PySem.Spec PyProof.Rows
/-! ## functions that return a dict of ints -/
def VRk (G : Gm) (W Z : Addr → Prop) (φ : List Addr) (H₀ H : Hp) (M : Mem) (kvs : List (Int × D)) (v : V) : Prop :=
  ∃ p us, v = .ref p ∧ H₀ p = none ∧ H p = some (.dK (List.zip (kvs.map fun e => Sum.inl e.1) us)) ∧ ¬ Bar W Z p ∧ RDs G (add1 (Bar W Z) p) H (kvs.map (·.2)) us ∧ Rel G W (add1 Z p) φ M H
abbrev OutK := Out (List (Int × D))
abbrev RunK (G : Gm) (Z : Addr → Prop) (φ : List Addr) (W : Addr → Prop) (H : Hp) (r : OutK) (Q : VK) (E : XK) : Prop :=
  RunG (fun W' H' M' kvs v => VRk G W' Z φ H H' M' kvs v) G Z φ W H r Q E
abbrev SEk := Env → Mem → OutK
def rdK (G : Gm) (f : SEk) (E : WX) : TE := fun σ H Q => ∃ W Z φ env M, Rel G W Z φ M H ∧ EnvR G (Bar W Z) φ H env σ ∧ RunK G Z φ W H (f env M) Q fun c d H' => E c d σ H'
abbrev GEk (X : Cx) (E : WX) (e : Expr) (f : SEk) : Prop := PE X e (rdK (gm X) f E)
section
variable {G : Gm} {W W1 Z : Addr → Prop} {φ ψ : List Addr} {H H₀ H1 : Hp} {M : Mem} {Q : VK} {E : XK}
theorem VRk.back {H' : Hp} {W' : Addr → Prop} {M' : Mem} {kvs : List (Int × D)} {v : V} (r : VRk G W' Z φ H1 H' M' kvs v) (x : ∀ a, H a ≠ none → H1 a ≠ none) : VRk G W' Z φ H H' M' kvs v := by
  obtain ⟨p, us, e, h0, h⟩ := r
  exact ⟨p, us, e, Decidable.byContradiction fun n => x p n h0, h⟩
theorem RunK.later {r : OutK} (x : Ext W H W1 H1) (h : RunK G Z φ W H r Q E) : RunK G Z φ W1 H1 r Q E := by
  cases r with
  | ok a M' => exact fun W' H' v R y z => h W' H' v R (x.trans y) (z.back x.live)
  | exc e M' => exact fun W' H' c d R y z => h W' H' c d R (x.trans y) z
  | bad => exact h
theorem RunK.bind {α β : Type} {R : (Addr → Prop) → Hp → Mem → α → β → Prop} {r : Out α} {k : α → Mem → OutK} (h : RunK G Z φ W H (r.bind k) Q E) :
    RunG R G Z φ W H r (fun v H1 => ∃ W1 M1 a, r = .ok a M1 ∧ Rel G W1 Z φ M1 H1 ∧ Ext W H W1 H1 ∧ R W1 H1 M1 a v ∧ RunK G Z φ W1 H1 (k a M1) Q E) E :=
  RunG.bind (R2 := fun W H W' H' M' kvs v => VRk G W' Z φ H H' M' kvs v) h fun _ _ _ _ x q => RunK.later x q
/-- a new dict becomes a cell -/
theorem thawK {kvs : List (Int × D)} {v : V} (R : Rel G W Z φ M H) (r : VRk G W Z φ H₀ H M kvs v) (x : ∀ a, H₀ a ≠ none → H a ≠ none) :
    ∃ p, v = .ref p ∧ H₀ p = none ∧ Rel G (add1 W p) Z (φ ++ [p]) (M ++ [some (.k kvs)]) H ∧ ∀ a o, H₀ a = some o → ¬ W a → ¬ add1 W p a := by
  obtain ⟨p, us, rfl, h0, hp, nb, rd, R2⟩ := r
  have hnp : ∀ i : Nat, φ[i]? ≠ some p := fun i e => (R2.sep i p e).2 (.inr rfl)
  have hb : ∀ a, Bar (add1 W p) Z a → Bar W (add1 Z p) a := fun a z => by
    rcases z with (z | z) | z
    · exact .inl z
    · exact .inr (.inr z)
    · exact .inr (.inl z)
  refine ⟨p, rfl, h0, ⟨by simp [R.len], ?_, fun a z => z.elim (R.wt a) fun z => by subst z; rw [hp]; simp, R.zt, fun i q e => ?_, fun i q c e1 e2 => ?_⟩, fun a o e n z => z.elim n fun z => by subst z; rw [h0] at e; cases e⟩
  · rw [List.nodup_append]
    refine ⟨R.nd, by simp, fun a ha b hb e => ?_⟩
    obtain ⟨i, hi⟩ := List.getElem?_of_mem ha
    simp at hb
    subst hb; subst e
    exact hnp i hi
  · by_cases hi : i < φ.length
    · rw [List.getElem?_append_left hi] at e
      exact R.sep i q e
    · rw [List.getElem?_append_right (by omega)] at e
      have hq : q = p := by
        cases h : i - φ.length with
        | zero => rw [h] at e; simpa using e.symm
        | succ k => rw [h] at e; simp at e
      subst hq
      exact ⟨by rw [hp]; simp, fun z => nb (.inr z)⟩
  · by_cases hi : i < φ.length
    · rw [List.getElem?_append_left hi] at e1
      rw [List.getElem?_append_left (by rw [← R.len]; exact hi)] at e2
      obtain ⟨w, r⟩ := R2.cell i q c e1 e2
      exact ⟨.inl w, r.ext (Ext.less hb) rfl⟩
    · rw [List.getElem?_append_right (by omega)] at e1
      rw [List.getElem?_append_right (by rw [← R.len]; omega), ← R.len] at e2
      cases h : i - φ.length with
      | zero =>
        rw [h] at e1 e2
        simp at e1 e2
        subst e1; subst e2
        refine ⟨.inr rfl, us, hp, rd.less fun a z => ?_⟩
        rcases z with (z | z) | z
        · exact .inl (.inl z)
        · exact .inr z
        · exact .inl (.inr z)
      | succ k => rw [h] at e1; simp at e1
/-- what leaves a def -/
theorem retk_run {W' : Addr → Prop} {H' : Hp} {M' : Mem} {i : Nat} {v : V} {kvs : List (Int × D)} (hl : φ.length = M.length) (f : Fin G Z φ W H M' W' ψ H') (r : VR G W' Z (φ ++ ψ) H H' M' (.cell i) v) (hi : ¬ i < M.length) (e1 : M'[i]? = some (some (.k kvs)))
    (h : RunK G Z φ W H (.ok kvs (M'.take M.length)) Q E) : Q v H' := by
  obtain ⟨p, e, rfl⟩ := r
  obtain ⟨w, us, hp, rd⟩ := f.rel.cell i p _ e e1
  have hs := f.rel.sep i p e
  have hnew : H p = none := by
    refine f.new p ?_
    rw [List.getElem?_append_right (by rw [hl]; omega)] at e
    exact List.mem_of_getElem? e
  let W2 : Addr → Prop := fun a => W' a ∧ a ≠ p
  have ls : ∀ a, add1 (Bar W2 Z) p a → Bar W' Z a := fun a z => by
    rcases z with (z | z) | z
    · exact .inl z.1
    · exact .inr z
    · subst z; exact .inl w
  have hnp : ∀ j : Nat, φ[j]? ≠ some p := fun j ej => by
    have hj := (List.getElem?_eq_some_iff.mp ej).1
    have e2 : (φ ++ ψ)[j]? = some p := by rw [List.getElem?_append_left hj]; exact ej
    have hk := (List.getElem?_eq_some_iff.mp e).1
    have := (List.getElem?_inj (l := φ ++ ψ) (i := j) (j := i) (by rw [List.length_append]; omega) f.rel.nd).mp (e2.trans e.symm)
    omega
  have R1 : Rel G W' Z φ (M'.take M.length) H' := f.rel.dropTo hl
  have x1 : Ext W' H' W2 H' := Ext.less fun a z => z.1
  have R2 : Rel G W2 (add1 Z p) φ (M'.take M.length) H' := by
    refine ⟨R1.len, R1.nd, fun a z => R1.wt a z.1, fun a z => z.elim (R1.zt a) fun z => by subst z; rw [hp]; simp, fun j q ej => ⟨(R1.sep j q ej).1, fun z => z.elim (R1.sep j q ej).2 fun z => by subst z; exact hnp j ej⟩, fun j q c ej ec => ?_⟩
    obtain ⟨wq, r⟩ := R1.cell j q c ej ec
    have hq : q ≠ p := fun z => by subst z; exact hnp j ej
    refine ⟨⟨wq, hq⟩, r.ext (Ext.less fun a z => ?_) rfl⟩
    rcases z with z | z | z
    · exact .inl z.1
    · exact .inr z
    · subst z; exact .inl w
  exact h W2 H' (.ref p) R2.unbar (f.ext.trans x1) ⟨p, us, rfl, hnew, hp, fun z => z.elim (fun z => z.2 rfl) hs.2, rd.less ls, R2⟩
end
def fnRunK (np n : Nat) (b : SS) (avs : List AV) (M : Mem) : OutK :=
  if avs.length = np then match b (initEnv n avs) M with
    | .ok (.ret (.cell i)) M' => if i < M.length then .bad else match M'[i]? with
      | some (some (.k kvs)) => .ok kvs (M'.take M.length)
      | _ => .bad
    | .exc e M' => .exc e (M'.take M.length)
    | _ => .bad
  else .bad
def spOfK (G : Gm) (F : List AV → Mem → OutK) : Sp := fun vs H Q E => ∃ W Z φ M avs, Rel G W Z φ M H ∧ SRs G (Bar W Z) φ H avs vs ∧ RunK G Z φ W H (F avs M) Q E
structure CaldK (X : Cx) (k : Nat) (x : Str) (F : List AV → Mem → OutK) : Prop where
  ex : ∃ f fd ps, X.mg x = some (.ref f) ∧ PySem.W.keepIn X.K (.ref f) = true ∧ Binds X.K fd ps [] ∧ FnOk X.prog X.w X.K X.mg X.base (L2.CX X.prog X.w) k f fd ps (spOfK (gm X) F)
structure CalDK (P : Program) (w : World) (K : PySem.W.Frag) (mg : Str → Option Value) (base : Heap) (k : Nat) (x : Str) (F : List AV → Mem → OutK) : Prop where
  ex : ∃ f fd ps, mg x = some (.ref f) ∧ PySem.W.keepIn K (.ref f) = true ∧ Binds K fd ps [] ∧ FnOk P w K mg base (L2.CX P w) k f fd ps (spOfK ⟨K, mg⟩ F)
theorem CalDK.cald {X : Cx} {k : Nat} {x : Str} {F : List AV → Mem → OutK} (c : CalDK X.prog X.w X.K X.mg X.base k x F) : CaldK X k x F := ⟨c.ex⟩
theorem CalDK.mono {P : Program} {w : World} {K : PySem.W.Frag} {mg : Str → Option Value} {base : Heap} {j k : Nat} {x : Str} {F : List AV → Mem → OutK} (c : CalDK P w K mg base j x F) (h : j ≤ k) : CalDK P w K mg base k x F :=
  let ⟨f, fd, ps, h1, h2, h3, h4⟩ := c.ex
  ⟨f, fd, ps, h1, h2, h3, h4.mono h⟩
section
variable {P : Program} {w : World} {K : PySem.W.Frag} {mg : Str → Option Value} {base : Heap} {x : Str} {st : Stmt} {f : Addr} {fd : FuncData} {N ps : List Str} {k : Nat} {b : SS}
theorem fn_okK (F : Fun K x x st f fd) (S : FnScope N ps (defScope st))
    (body : ∀ (cdv : Value) (A : Around) (outer : List PySem.Env) (s : Shared) (H : Hp) (E : XK), Room k (A.deeper (envOfC x (defScope st) s.heap.objs.size f cdv)) →
      GSs (cxf P w K mg base N x st f cdv A outer s H E) (fun cls d _ H' => E cls d H') (defBody st) b) : FnOk P w K mg base (L2.CX P w) (k + 1) f fd ps (spOfK ⟨K, mg⟩ (fnRunK ps.length N.length b)) := by
  refine F.okX S (fun vs H Q E ⟨W, Z, φ, M, avs, R, rs, h⟩ => ?_) (fun cdv A outer s H vs Q E hr ⟨W, Z, φ, M, avs, R, rs, h⟩ => ⟨_, body cdv A outer s H E hr, ?_⟩)
  · unfold fnRunK at h
    split at h
    · rename_i e; rw [← rs.length]; exact e
    · exact h.elim
  · unfold fnRunK at h
    split at h
    · rename_i hn
      refine ⟨W, Z, φ, initEnv N.length avs, M, R, start_env rs, ?_⟩
      cases e : b (initEnv N.length avs) M with
      | bad => rw [e] at h; exact h.elim
      | exc ex M' =>
        rw [e] at h
        exact fun W' ψ H' c d σ' fin xr _ => h W' H' c d (fin.rel.dropTo R.len) fin.ext xr
      | ok fl M' =>
        rw [e] at h
        cases fl with
        | next e' => exact h.elim
        | brk e' => exact h.elim
        | cont e' => exact h.elim
        | ret av =>
          cases av with
          | d x => exact h.elim
          | fr x => exact h.elim
          | scr x => exact h.elim
          | cell i =>
            dsimp only at h
            by_cases hi : i < M.length
            · rw [if_pos hi] at h; exact h.elim
            · rw [if_neg hi] at h
              cases e1 : M'[i]? with
              | none => rw [e1] at h; exact h.elim
              | some oc =>
                cases oc with
                | none => rw [e1] at h; exact h.elim
                | some mc =>
                  cases mc with
                  | l _ => rw [e1] at h; exact h.elim
                  | t _ => rw [e1] at h; exact h.elim
                  | k kvs =>
                    rw [e1] at h
                    exact fun W' ψ H' v fin r => retk_run R.len fin r hi e1 h
    · exact h.elim
end
def sArgsK (F : List AV → Mem → OutK) (l : SL) : SEk := fun env M => (l env M).bind fun avs M1 => F avs M1
def sAsgK (i : Nat) (f : SEk) : SS := fun env M => (f env M).bind fun kvs M1 => .ok (.next (env.set i (some (.cell M1.length)))) (M1 ++ [some (.k kvs)])
section
variable {X : Cx} {E : WX} {a b e t : Expr} {es : List Expr} {l : SL} {f : SE} {pos p q : Pos} {k : Nat}
theorem gek_call {x : Str} {F : List AV → Mem → OutK} (c : CaldK X k x F) (hr : Room k X.A) (tk : Takes X E) (hg : Gl X x) (hl : GL X E (e :: es) l) (hdb : (x == ("__debug__" : Str)) = false)
    (he : starEach (e :: es) X.env = (false, eval e X.env) :: starEach es X.env) (hpl : (backTo pos (starEach es X.env)).any (·.1) = false) : GEk X E (.Call (.Name x p) (e :: es) [] pos) (sArgsK F l) := by
  obtain ⟨f, fd, ps, h1, h2, h3, h4⟩ := c.ex
  exact PE.imp (pe_callS h4 hr hg h1 h2 h3 (fun σ => passAt tk σ) hl hdb he hpl) fun σ H Q ⟨W, Z, φ, env, M, R, Er, h⟩ => ⟨W, Z, φ, env, M, R, Er, (RunK.bind h).imp fun vs H1 ⟨W1, M1, avs, _, R1, x1, r1, h2⟩ => ⟨W1, Z, φ, M1, avs, R1, r1, h2⟩⟩
theorem gs_asgK {i : Nat} {x : Str} {fk : SEk} {pos' : Pos} (hN : X.N.Nodup) (hi : X.N[i]? = some x) (hx : Loc X.env.scope x) (he : GEk X E e fk) (hs : swapsWith e (some (.Name x pos')) pos.line X.env = pure false)
    (hf : X.fn x = true ∨ X.env.scope.names.lookup x = some .local) : GS X E (.Assign [.Name x pos'] e pos) (sAsgK i fk) :=
  PS.imp (ps_set hN hi hx he hs hf) fun D σ H ⟨W, Z, φ, env, M, R, Er, h⟩ => ⟨W, Z, φ, env, M, R, Er,
    (RunS.bind0 h).imp2 (fun v H1 ⟨W1, M1, kvs, _, R1, x1, r1, h2⟩ => by
      obtain ⟨p, rfl, h0, R2, hk⟩ := thawK R1 r1 x1.live
      have x2 : Ext W H (add1 W1 p) H1 := ⟨fun a o e n => ⟨(x1.keep a o e n).1, fun z => z.elim (x1.keep a o e n).2 fun z => by subst z; rw [h0] at e; cases e⟩, x1.live⟩
      refine h2 (add1 W1 p) [p] H1 _ ⟨R2, x2, fun q hq => by simp at hq; subst hq; exact h0⟩ ?_ (by simp)
      have Er2 := (Er.ext x2.bar).app [p]
      refine Er2.set (av := .cell M1.length) ⟨p, ?_, rfl⟩ i
      rw [← R1.len]
      simp) (fun c d H' q => q σ rfl)⟩
end
end Mp

set_option maxHeartbeats 4000000
namespace Mp
open PySem L2 PySem.Spec PyProof.Rows
section
variable {G : Gm} {W Z : Addr → Prop} {φ : List Addr} {H : Hp} {M : Mem}
theorem upd_live {p : Addr} {o : HO} (a : Addr) (h : H a ≠ none) : upd H p o a ≠ none := by
  by_cases z : a = p
  · rw [z, upd_same]; simp
  · rw [upd_ne z]; exact h
theorem Rel.updZ (R : Rel G W (add1 Z p) φ M H) {o : HO} (nW : ¬ W p) : Rel G W (add1 Z p) φ M (upd H p o) := by
  have x : Ext (Bar W (add1 Z p)) H (Bar W (add1 Z p)) (upd H p o) := ⟨fun a u e n => ⟨by rw [upd_ne fun z => n (.inr (.inr z))]; exact e, n⟩, fun a h => upd_live a h⟩
  refine ⟨R.len, R.nd, fun a w => upd_live a (R.wt a w), fun a z => upd_live a (R.zt a z), fun i q e => ⟨upd_live q (R.sep i q e).1, (R.sep i q e).2⟩, fun i q c e1 e2 => ?_⟩
  obtain ⟨w, r⟩ := R.cell i q c e1 e2
  exact ⟨w, r.ext x (upd_ne fun z => nW (by rw [← z]; exact w))⟩
theorem barZ {p : Addr} {o : HO} (hp : H p = none) : Ext (Bar W Z) H (Bar W (add1 Z p)) (upd H p o) := ⟨fun a u e n => by
  have hne : a ≠ p := fun z => by rw [z, hp] at e; cases e
  exact ⟨by rw [upd_ne hne]; exact e, fun z => by
    rcases z with z | z | z
    · exact n (.inl z)
    · exact n (.inr z)
    · exact hne z⟩, fun a h => upd_live a h⟩
end
/-! ## {n: True} -/
section
variable {X : Cx} {E : WX} {a b o e v ek ev : Expr} {f g fo fi fv : SE} {pos p2 tpos : Pos}
theorem gs_newK1 {i : Nat} {n : Int} {bb : Bool} {x : Str} {pos' : Pos} (hN : X.N.Nodup) (hi : X.N[i]? = some x) (hx : Loc X.env.scope x) (hk : GE X E ek (sCon (.int n))) (hv : GE X E ev (sCon (.bl bb))) (hs : swapsWith (.Dict [some ek] [ev] p2) (some (.Name x pos')) pos.line X.env = pure false) (hf : X.fn x = true ∨ X.env.scope.names.lookup x = some .local) :
    GS X E (.Assign [.Name x pos'] (.Dict [some ek] [ev] p2) pos) (sNewD i (.k [(n, .bl bb)])) :=
  PS.imp (ps_set hN hi hx (pe_disp (pps_cons hk hv pps_nil) rfl rfl (by simp) (by simp)) hs hf) fun D σ H ⟨W, Z, φ, env, M, R, Er, h⟩ => fun p hp => by
    have R2 := R.laid (o := .dK []) hp
    have x0 := Ext.laid R (o := .dK []) hp
    have nW : ¬ W p := fun z => R.wt p z hp
    have nZ : ¬ Z p := fun z => R.zt p z hp
    have xb : Ext (Bar W Z) H (Bar W (add1 Z p)) (upd H p (.dK [])) := barZ hp
    refine ⟨W, add1 Z p, φ, env, M, R2, Er.ext xb, fun W1 H1 v1 R3 x1 r1 => ⟨W1, add1 Z p, φ, env, M, R3, (Er.ext xb).ext x1.bar, fun W3 H3 v3 R4 x3 r3 => ?_⟩⟩
    have k1 := x1.keep p _ (by rw [upd_same]) nW
    have k3 := x3.keep p _ k1.1 k1.2
    have r1 : RD _ _ _ (.int n) v1 := r1
    have r3 : RD _ _ _ (.bl bb) v3 := r3
    cases r1
    cases r3
    refine ⟨k3.1, [(Sum.inl n, .bl bb)], rfl, by simp, ?_⟩
    have R5 := R4.updZ (o := .dK (mergeK [] [(Sum.inl n, .bl bb)])) k3.2
    have x5 : Ext W H W3 (upd H3 p (.dK (mergeK [] [(Sum.inl n, .bl bb)]))) := ⟨fun a u e n => by
      have hne : a ≠ p := fun z => by rw [z, hp] at e; cases e
      have q := ((x0.trans x1).trans x3).keep a u e n
      exact ⟨by rw [upd_ne hne]; exact q.1, q.2⟩, fun a h => upd_live a (((x0.trans x1).trans x3).live a h)⟩
    have vk : VRk (gm X) W3 Z φ H (upd H3 p (.dK (mergeK [] [(Sum.inl n, .bl bb)]))) M [(n, .bl bb)] (.ref p) :=
      ⟨p, [.bl bb], rfl, hp, by rw [upd_same]; rfl, fun z => z.elim k3.2 nZ, .cons (.bl _) .nil, R5⟩
    obtain ⟨q, eq, h0, R6, hk⟩ := thawK R5.unbar vk x5.live
    cases eq
    have x6 : Ext W H (add1 W3 p) (upd H3 p (.dK (mergeK [] [(Sum.inl n, .bl bb)]))) := ⟨fun a o e n => ⟨(x5.keep a o e n).1, fun z => z.elim (x5.keep a o e n).2 fun z => by subst z; rw [hp] at e; cases e⟩, x5.live⟩
    refine h (add1 W3 p) [p] _ _ ⟨R6, x6, fun q hq => by simp at hq; subst hq; exact hp⟩ ?_ (by simp)
    have Er2 := (Er.ext x6.bar).app [p]
    refine Er2.set (av := .cell M.length) ⟨p, ?_, rfl⟩ i
    rw [← R.len]
    simp
end
/-! ## key in f(..) -/
def inKOp (x : AV) (kvs : List (Int × D)) (M : Mem) : Out Bool := match x with
  | .d (.int i) => .ok (hasK kvs i) M
  | _ => .bad
def sInK (f : SE) (g : SEk) : SB := fun env M => (f env M).bind fun x M1 => (g env M1).bind fun kvs M2 => inKOp x kvs M2
section
variable {X : Cx} {E : WX} {a b : Expr} {f : SE} {g : SEk} {pos : Pos}
theorem gb_inK (hu : X.A.units + 65 < cLine) (hm : behindInMarks .In b = false) (ha : GE X E a f) (hb : GEk X E b g) : GB X E (.Compare a [.In] [b] pos) (sInK f g) :=
  PT.imp (pt_cmp (pc_din (by omega) ha hb) hm) fun σ H Q ⟨W, Z, φ, env, M, R, Er, h⟩ =>
    ⟨W, Z, φ, env, M, R, Er, (RunB.bind h).imp fun v H1 ⟨W1, M1, x, _, R1, x1, r1, h2⟩ =>
      ⟨W1, Z, φ, env, M1, R1, Er.ext x1.bar, (RunB.bind h2).imp fun u H2 ⟨W2, M2, kvs, _, R2, x2, r2, h4⟩ => by
        cases x with
        | d dd =>
          cases dd with
          | int i =>
            have r1' : RD _ _ _ (.int i) v := r1
            cases r1'
            obtain ⟨p, us, rfl, h0, hp, nb, rd, R3⟩ := r2
            refine ⟨p, _, rfl, DGet.k (k := Sum.inl i) hp, _, rfl, ?_⟩
            have e : (List.zip (kvs.map fun e => (Sum.inl e.1 : Key)) us).any (fun kv => decide (kv.1 = Sum.inl i)) = hasK kvs i := any_zip (fk := (Sum.inl : Int → Key)) (fun z => by injection z) i kvs us (by have := rd.length; simpa using this)
            rw [← valV_any, e]
            exact RunB.ok R2 h4
          | _ => exact h4.elim
        | _ => exact h4.elim⟩⟩
end
/-! ### stepping -/
section
variable {β : Type} {kx : Exc → Mem → Out β} {res : Out β} {env : Env} {M : Mem}
theorem e_argsK {k : List (Int × D) → Mem → Out β} {F : List AV → Mem → OutK} {l : SL} (h : el (l env M) (fun avs M1 => el (F avs M1) k kx) kx = res) : el (sArgsK F l env M) k kx = res := by
  rw [← h]
  exact el_bind _ _ _ _
theorem e_asgK {k : Fl → Mem → Out β} {i : Nat} {f : SEk} (h : el (f env M) (fun kvs M1 => k (.next (env.set i (some (.cell M1.length)))) (M1 ++ [some (.k kvs)])) kx = res) : el (sAsgK i f env M) k kx = res := by
  rw [← h]
  exact el_bind _ _ _ _
theorem e_inK {k : Bool → Mem → Out β} {f : SE} {g : SEk} (h : el (f env M) (fun x M1 => el (g env M1) (fun kvs M2 => el (inKOp x kvs M2) k kx) kx) kx = res) : el (sInK f g env M) k kx = res := by
  rw [← h]
  unfold sInK
  rw [el_bind]
  congr
  funext x M1
  rw [el_bind]
theorem p_inK {k : Bool → Mem → Out β} {i : Int} {kvs : List (Int × D)} (h : k (hasK kvs i) M = res) : el (inKOp (.d (.int i)) kvs M) k kx = res := h
end
end Mp

namespace Mp
open PySem L2 PySem.Spec PyProof.Rows

/-! ## sorted(a list of tuples of alike data) -/
noncomputable def leD (a b : D) : Bool := PySem.W.dataLe false D.py a b
noncomputable def sortD (xs : List D) : List D := xs.mergeSort leD
def neTup : D → Bool
  | .tup (_ :: _) => true
  | _ => false
def okSort (xs : List D) : Bool := D.flats xs && (xs.all fun a => xs.all fun b => PySem.W.alike a.py b.py) && xs.all neTup && xs.all fun a => decide (a.py.depth ≤ 60)
noncomputable def sorted4Op : List AV → Mem → Out AV
  | [a], M => match sorted3Op [a] M with
    | .bad => match lstOf M a with
      | some xs => if okSort xs = true then .ok (.fr (sortD xs)) M else .bad
      | none => .bad
    | r => r
  | avs, M => sorted3Op avs M
theorem zipD {G : Gm} {B : Addr → Prop} {H : Hp} : ∀ {L : List D} {vs : List V}, RDs G B H L vs → ∃ zs : List (V × D), zs.map (·.1) = vs ∧ zs.map (·.2) = L ∧ ∀ z ∈ zs, RD G B H z.2 z.1
  | [], _, h => by cases h; exact ⟨[], rfl, rfl, fun _ h => (nomatch h)⟩
  | c :: L, _, h => by
    cases h with
    | @cons _ _ v vs h1 h2 =>
      obtain ⟨zs, e1, e2, e3⟩ := zipD h2
      refine ⟨(v, c) :: zs, by rw [List.map_cons, e1], by rw [List.map_cons, e2], fun z hz => ?_⟩
      rcases List.mem_cons.mp hz with rfl | hz
      · exact h1
      · exact e3 z hz
theorem dzip {G : Gm} {B : Addr → Prop} {H : Hp} : ∀ {zs : List (V × D)}, (∀ z ∈ zs, RD G B H z.2 z.1) → RDs G B H (zs.map (·.2)) (zs.map (·.1))
  | [], _ => .nil
  | z :: zs, h => .cons (h z List.mem_cons_self) (dzip fun y hy => h y (.tail _ hy))
theorem flats_mem : ∀ {xs : List D} {d : D}, D.flats xs = true → d ∈ xs → d.flat = true
  | x :: r, d, h, hd => by
    simp only [D.flats, Bool.and_eq_true] at h
    rcases List.mem_cons.mp hd with rfl | hd
    · exact h.1
    · exact flats_mem h.2 hd
section
variable {G : Gm} {W Z B : Addr → Prop} {φ : List Addr} {H : Hp} {M : Mem} {Q : VK} {E : XK} {avs : List AV} {vs : List V}
theorem sorted4_run (R : Rel G W Z φ M H) (r : SRs G (Bar W Z) φ H avs vs) (h : Run G Z φ W H (sorted4Op avs M) Q E) : rSortedTI G.K vs H Q ∨ (rSortedI G.K vs H Q ∨ rSortedDt G.K vs H Q) := by
  unfold sorted4Op at h
  split at h
  · rename_i a
    split at h
    · split at h
      · rename_i xs e1
        split at h
        · rename_i hok
          unfold okSort at hok
          simp only [Bool.and_eq_true] at hok
          obtain ⟨⟨⟨hf, hal⟩, hne⟩, hdp⟩ := hok
          obtain ⟨v, rfl, r1⟩ := r.one
          right; right
          obtain ⟨p, us, rfl, hq, hr, _⟩ := R.lst r1 e1
          obtain ⟨zs, z1, z2, z3⟩ := zipD hr
          have hpy : (zs.map fun z : V × D => (z.1, z.2.py)).map (·.1) = us := by rw [List.map_map]; exact z1
          have zmem : ∀ z ∈ zs, z.2 ∈ xs := fun z hz => by rw [← z2]; exact List.mem_map.mpr ⟨z, hz, rfl⟩
          refine ⟨p, zs.map fun z => (z.1, z.2.py), rfl, by rw [hpy]; exact hq, fun b hb => ?_, ?_, ?_, fun l hl => ?_⟩
          · obtain ⟨z, hz, rfl⟩ := List.mem_map.mp hb
            refine ⟨RD.dp (z3 z hz) (flats_mem hf (zmem z hz)), ?_⟩
            have := List.all_eq_true.mp hdp z.2 (zmem z hz)
            simpa using this
          · intro d hd d' hd'
            rw [List.map_map] at hd hd'
            obtain ⟨z, hz, rfl⟩ := List.mem_map.mp hd
            obtain ⟨z', hz', rfl⟩ := List.mem_map.mp hd'
            exact List.all_eq_true.mp (List.all_eq_true.mp hal z.2 (zmem z hz)) z'.2 (zmem z' hz')
          · left
            intro d hd
            rw [List.map_map] at hd
            obtain ⟨z, hz, rfl⟩ := List.mem_map.mp hd
            have := List.all_eq_true.mp hne z.2 (zmem z hz)
            cases e : z.2 with
            | tup ys =>
              rw [e] at this
              cases ys with
              | nil => cases this
              | cons x c => exact ⟨x.py, D.pys c, by show z.2.py = _; rw [e]; rfl⟩
            | _ => rw [e] at this; cases this
          · have em : ((zs.map fun z : V × D => (z.1, z.2.py)).mergeSort (PySem.W.dataLe false (·.2))).map (·.1) = (zs.mergeSort fun a b => leD a.2 b.2).map (·.1) := by
              rw [← List.map_mergeSort (r := fun a b : V × D => leD a.2 b.2) (fun a _ b _ => ?_), List.map_map]
              · rfl
              · rfl
            rw [em]
            have el : sortD xs = (zs.mergeSort fun a b => leD a.2 b.2).map (·.2) := by
              rw [List.map_mergeSort (s := leD) (fun a _ b _ => rfl), z2]
              rfl
            rw [el] at h
            exact Run.new R h (dzip fun z hz => z3 z (List.mem_mergeSort.mp hz)) l hl
        · exact h.elim
      · exact h.elim
    · exact sorted3_run R r h
  · exact sorted3_run R r h
end
section
variable {X : Cx} {E : WX} {e : Expr} {es : List Expr} {l : SL} {pos p : Pos}
theorem gc_sorted4 (hu : X.A.units + 65 < cLine) (hc : X.calm = true) (hl : GL X E (e :: es) l) (he : starEach (e :: es) X.env = (false, eval e X.env) :: starEach es X.env) (hpl : (backTo pos (starEach es X.env)).any (·.1) = false) (hg : Gl X "sorted") (hm : X.mg "sorted" = none) : GE X E (.Call (.Name "sorted" p) (e :: es) [] pos) (sArgs sorted4Op l) :=
  ge_bi (fun h => pe_callB (cr_sortedTI.or (cr_sortedI.or (cr_sortedDt (by omega)))) hg hm boot_sorted h (he := he) (hpl := hpl)) hl fun W Z φ M H avs vs Q E R r h => sorted4_run R r h
end
/-! pairs of rows of ints -/
abbrev tp (p : List Int × List Int) : D := .tup [ti p.1, ti p.2]
theorem tp_py (p : List Int × List Int) : (tp p).py = .tuple [.tuple (p.1.map .int), .tuple (p.2.map .int)] := by
  show PyData.tuple [(ti p.1).py, (ti p.2).py] = _
  rw [py_ti, py_ti]
theorem tp_okS (L : List (List Int × List Int)) : okSort (L.map tp) = true := by
  unfold okSort
  simp only [Bool.and_eq_true]
  refine ⟨⟨⟨?_, ?_⟩, ?_⟩, ?_⟩
  · induction L with
    | nil => rfl
    | cons p L ih =>
      show ((tp p).flat && D.flats (L.map tp)) = true
      rw [ih, Bool.and_true]
      show ((ti p.1).flat && ((ti p.2).flat && true)) = true
      rw [flat_ti, flat_ti]
      rfl
  · refine List.all_eq_true.mpr fun a ha => List.all_eq_true.mpr fun b hb => ?_
    obtain ⟨p, _, rfl⟩ := List.mem_map.mp ha
    obtain ⟨q, _, rfl⟩ := List.mem_map.mp hb
    rw [tp_py, tp_py]
    show (PySem.W.alikeAll (p.1.map .int) (q.1.map .int) && (PySem.W.alikeAll (p.2.map .int) (q.2.map .int) && true)) = true
    rw [PySem.W.alike_ints, PySem.W.alike_ints]
    rfl
  · refine List.all_eq_true.mpr fun a ha => ?_
    obtain ⟨p, _, rfl⟩ := List.mem_map.mp ha
    rfl
  · refine List.all_eq_true.mpr fun a ha => ?_
    obtain ⟨p, _, rfl⟩ := List.mem_map.mp ha
    rw [tp_py, decide_eq_true_iff]
    show max (PyData.depthAll (p.1.map .int) + 1) (max (PyData.depthAll (p.2.map .int) + 1) 0) + 1 ≤ 60
    rw [PySem.W.depth_ints, PySem.W.depth_ints]
    decide
theorem tp_inj {p q : List Int × List Int} (h : tp p = tp q) : p = q := by
  have inj : ∀ a b : List Int, a.map D.int = b.map D.int → a = b := fun a b h => by
    have := congrArg (List.map fun d : D => match d with | .int i => i | _ => 0) h
    rw [List.map_map, List.map_map] at this
    have idm : ∀ c : List Int, c.map ((fun d : D => match d with | .int i => i | _ => 0) ∘ D.int) = c := fun c => by
      induction c with
      | nil => rfl
      | cons x r ih => rw [List.map_cons, ih]; rfl
    rw [idm, idm] at this
    exact this
  injection h with h
  injection h with h1 h2
  injection h2 with h2 h3
  injection h1 with h1
  injection h2 with h2
  exact Prod.ext (inj _ _ h1) (inj _ _ h2)
theorem sorted_tp (L : List (List Int × List Int)) (M : Mem) : ∃ L' : List (List Int × List Int), L'.Perm L ∧ sorted4Op [.fr (L.map tp)] M = .ok (.fr (L'.map tp)) M := by
  cases L with
  | nil =>
    refine ⟨[], .refl _, ?_⟩
    have h3 : sorted3Op [.fr (([] : List (List Int × List Int)).map tp)] M = .ok (.fr ((sortI []).map D.int)) M := rfl
    have h4 : sortI [] = [] := (List.perm_nil).mp (sortI_perm [])
    rw [h4] at h3
    unfold sorted4Op
    dsimp only
    rw [h3]
    rfl
  | cons p L =>
    refine ⟨(p :: L).mergeSort fun a b => leD (tp a) (tp b), List.mergeSort_perm _ _, ?_⟩
    have h3 : sorted3Op [.fr ((p :: L).map tp)] M = .bad := rfl
    have h4 : lstOf M (.fr ((p :: L).map tp)) = some ((p :: L).map tp) := rfl
    unfold sorted4Op
    dsimp only
    rw [h3]
    dsimp only
    rw [h4]
    dsimp only
    rw [if_pos (tp_okS _)]
    unfold sortD
    rw [List.map_mergeSort (s := leD) (fun a _ b _ => rfl)]
end Mp

namespace Mp
open PySem L2 PySem.Spec PyProof.Rows
def top (i : Nat) : Stmt := PySem.Challenge.pw_germroads_k01_whole_lots_of_classes.main.body.getD i (.Pass ⟨0, 0, 0, 0⟩)
structure Bn (mg : Str → Option Value) : Prop where
  abs : mg "abs" = none
  all : mg "all" = none
  any : mg "any" = none
  bool : mg "bool" = none
  int : mg "int" = none
  isinstance : mg "isinstance" = none
  len : mg "len" = none
  list : mg "list" = none
  range : mg "range" = none
  str : mg "str" = none
  sum : mg "sum" = none
  tuple : mg "tuple" = none
  zip : mg "zip" = none
structure Cs (G : Gm) : Prop where
  kMOST_CONDUCTOR : Cst G "MOST_CONDUCTOR" (.int 3000)
  kMOST_FIRST : Cst G "MOST_FIRST" (.int 60)
  kMOST_ITEM : Cst G "MOST_ITEM" (.int 300)
/-! ### is_integer -/
abbrev stis_integer : Stmt := top 5
def Tis_integer : SS :=
 (sSeq2 (sRet (sAnd (sIsi ["int"] (sVar 0)) (sNot (sIsi ["bool"] (sVar 0)))))
 sSkip)
def Fis_integer : List AV → Mem → Out AV := fnRun 1 1 Tis_integer
theorem scis_integer : FnScope ["value"] ["value"] (defScope stis_integer) := C8.fnScope_by rfl
theorem okis_integer {P : Program} {w : World} {K : PySem.W.Frag} {mg : Str → Option Value} {base : Heap} {f : Addr} {fd : FuncData} (F : Fun K "is_integer" "is_integer" stis_integer f fd) (B : Bn mg) : FnOk P w K mg base (L2.CX P w) 1 f fd ["value"] (spOf ⟨K, mg⟩ Fis_integer) := by
  refine fn_ok (N := ["value"]) F scis_integer (fun cdv A outer s H E hr => ?_)
  have hnd : (["value"] : List Str).Nodup := scis_integer.nd
  have hu : (A.deeper (envOfC "is_integer" (defScope stis_integer) s.heap.objs.size f cdv)).units + 65 < cLine := by have := hr.un; omega
  have tk : Takes (cxf P w K mg base ["value"] "is_integer" stis_integer f cdv A outer s H E) (fun cls d _ H' => E cls d H') := takes_of rfl rfl rfl rfl
  have po : PassesOwn (model P w) (cxf P w K mg base ["value"] "is_integer" stis_integer f cdv A outer s H E).A (cxf P w K mg base ["value"] "is_integer" stis_integer f cdv A outer s H E).env (cxf P w K mg base ["value"] "is_integer" stis_integer f cdv A outer s H E).xe := passes_of rfl
  exact (gs_cons (gs_ret (ge_and (ge_isi1 (u := "int") (by rfl) B.isinstance (by decide) (pe_bltn (by rfl) B.int boot_int (by rfl)) (gv 0) (by rfl) (by rfl) (by rfl)) (ge_one1 (ge_not (ge_isi1 (u := "bool") (by rfl) B.isinstance (by decide) (pe_bltn (by rfl) B.bool boot_bool (by rfl)) (gv 0) (by rfl) (by rfl) (by rfl))))))
 gs_nil)
/-! ### greatest_common -/
abbrev stgreatest_common : Stmt := top 6
def Tgreatest_common : SS :=
 (sSeq2 (sPar2 0 1 false false (sArgs absOp (sCons (sVar 0) sNil)) (sArgs absOp (sCons (sVar 1) sNil)))
 (sSeq2 (sWhile (sB (sCmp .NotEq (sVar 1) (sCon (.int 0))))
 (sSeq2 (sPar2 0 1 false false (sVar 1) (sBin .Mod (sVar 0) (sVar 1)))
 sSkip))
 (sSeq2 (sRet (sVar 0))
 sSkip)))
def Fgreatest_common : List AV → Mem → Out AV := fnRun 2 2 Tgreatest_common
theorem scgreatest_common : FnScope ["a", "b"] ["a", "b"] (defScope stgreatest_common) := C8.fnScope_by rfl
theorem okgreatest_common {P : Program} {w : World} {K : PySem.W.Frag} {mg : Str → Option Value} {base : Heap} {f : Addr} {fd : FuncData} (F : Fun K "greatest_common" "greatest_common" stgreatest_common f fd) (B : Bn mg) : FnOk P w K mg base (L2.CX P w) 1 f fd ["a", "b"] (spOf ⟨K, mg⟩ Fgreatest_common) := by
  refine fn_ok (N := ["a", "b"]) F scgreatest_common (fun cdv A outer s H E hr => ?_)
  have hnd : (["a", "b"] : List Str).Nodup := scgreatest_common.nd
  have hu : (A.deeper (envOfC "greatest_common" (defScope stgreatest_common) s.heap.objs.size f cdv)).units + 65 < cLine := by have := hr.un; omega
  have tk : Takes (cxf P w K mg base ["a", "b"] "greatest_common" stgreatest_common f cdv A outer s H E) (fun cls d _ H' => E cls d H') := takes_of rfl rfl rfl rfl
  have po : PassesOwn (model P w) (cxf P w K mg base ["a", "b"] "greatest_common" stgreatest_common f cdv A outer s H E).A (cxf P w K mg base ["a", "b"] "greatest_common" stgreatest_common f cdv A outer s H E).env (cxf P w K mg base ["a", "b"] "greatest_common" stgreatest_common f cdv A outer s H E).xe := passes_of rfl
  exact (gs_cons (gs_par2 (i := 0) (j := 1) (m := false) (n := false) (by rfl) hnd (by rfl) (by rfl) (by decide) (by rfl) (by rfl) (gc_abs (by rfl) (gl_one (gv 0)) (by rfl) (by rfl) (by rfl) B.abs) (gc_abs (by rfl) (gl_one (gv 1)) (by rfl) (by rfl) (by rfl) B.abs) (by rfl) (by rfl) (by rfl) (by rfl))
 (gs_cons (gs_while po (gb_cmp hu (by rfl) (gv 1) gn_int)
 (gs_cons (gs_par2 (i := 0) (j := 1) (m := false) (n := false) (by rfl) hnd (by rfl) (by rfl) (by decide) (by rfl) (by rfl) (gv 1) (ge_bin (gv 0) (gv 1)) (by rfl) (by rfl) (by rfl) (by rfl))
 gs_nil))
 (gs_cons (gs_ret (gv 0))
 gs_nil)))
/-! ### steps_of -/
abbrev ststeps_of : Stmt := top 11
def Tsteps_of : SS :=
 (sSeq2 (sAsg 1 true (sLst (sCons (sIdx (sVar 0) (sCon (.int 0))) sNil)))
 (sSeq2 (sFor (sSeq (sSlice (sVar 0) (some (sCon (.int 1))) none)) (.name 2)
 (sSeq2 (sExpr (sMeth mAppend (sVar 1) (sCons (sArgs Fgreatest_common (sCons (sIdx (sVar 1) (sNeg (sCon (.int 1)))) (sCons (sVar 2) sNil))) sNil)))
 sSkip))
 (sSeq2 (sRet (sVar 1))
 sSkip)))
def Fsteps_of : List AV → Mem → Out AV := fnRun 1 3 Tsteps_of
theorem scsteps_of : FnScope ["c", "found", "b"] ["c"] (defScope ststeps_of) := C8.fnScope_by rfl
theorem oksteps_of {P : Program} {w : World} {K : PySem.W.Frag} {mg : Str → Option Value} {base : Heap} {f : Addr} {fd : FuncData} (F : Fun K "steps_of" "steps_of" ststeps_of f fd) (cgreatest_common : CalD P w K mg base 1 "greatest_common" Fgreatest_common) : FnOk P w K mg base (L2.CX P w) 2 f fd ["c"] (spOf ⟨K, mg⟩ Fsteps_of) := by
  refine fn_ok (N := ["c", "found", "b"]) F scsteps_of (fun cdv A outer s H E hr => ?_)
  have hnd : (["c", "found", "b"] : List Str).Nodup := scsteps_of.nd
  have hu : (A.deeper (envOfC "steps_of" (defScope ststeps_of) s.heap.objs.size f cdv)).units + 65 < cLine := by have := hr.un; omega
  have tk : Takes (cxf P w K mg base ["c", "found", "b"] "steps_of" ststeps_of f cdv A outer s H E) (fun cls d _ H' => E cls d H') := takes_of rfl rfl rfl rfl
  have po : PassesOwn (model P w) (cxf P w K mg base ["c", "found", "b"] "steps_of" ststeps_of f cdv A outer s H E).A (cxf P w K mg base ["c", "found", "b"] "steps_of" ststeps_of f cdv A outer s H E).env (cxf P w K mg base ["c", "found", "b"] "steps_of" ststeps_of f cdv A outer s H E).xe := passes_of rfl
  exact (gs_cons (gs_asg (i := 1) (m := true) hnd (by rfl) (by first | exact Or.inl rfl | exact Or.inr rfl) (ge_lst (gl_one (ge_idx (fun _ _ => rfl) (gv 0) gn_int))) (by rfl) (.inl rfl))
 (gs_cons (gs_for (t := (.name 2)) po (by rfl) (gi_seq (gk_10 (gv 0) gn_int)) (gg_name (i := 2) hnd (by rfl) (by first | exact Or.inl rfl | exact Or.inr rfl) (by first | exact Or.inl rfl | exact Or.inr rfl))
 (gs_cons (gs_expr (gm_append (gv 1) (gl_one (ge_call (by exact cgreatest_common.cald) (hr.mono (by decide)) tk (by rfl) (gl_more (ge_idx (fun _ _ => rfl) (gv 1) (ge_neg gn_int)) (gl_one (gv 2))) (by decide) (by rfl) (by rfl))) (by rfl) (by rfl) (by rfl) (by rfl) (by rfl)) (by rfl))
 gs_nil) (fun _ => rfl))
 (gs_cons (gs_ret (gv 1))
 gs_nil)))
/-! ### conductor_of -/
abbrev stconductor_of : Stmt := top 12
def Tconductor_of : SS :=
 (sSeq2 (sAsg 1 false (sArgs Fsteps_of (sCons (sVar 0) sNil)))
 (sSeq2 (sRet (sBin .Add (sBin .Sub (sArgs sum2Op (sCons (sComp (sRng (sCons (sCon (.int 1)) (sCons (sArgs lenOp (sCons (sVar 0) sNil)) sNil))) (.name 2) sYes (sBin .Mult (sBin .Sub (sIdx (sVar 1) (sBin .Sub (sVar 2) (sCon (.int 1)))) (sIdx (sVar 1) (sVar 2))) (sIdx (sVar 0) (sVar 2))) (([("i", 2)] : List (Str × Nat)).map (·.2))) sNil)) (sIdx (sVar 0) (sCon (.int 0)))) (sCon (.int 1))))
 sSkip))
def Fconductor_of : List AV → Mem → Out AV := fnRun 1 3 Tconductor_of
theorem scconductor_of : FnScope ["c", "e", "i"] ["c"] (defScope stconductor_of) := C8.fnScope_by rfl
theorem okconductor_of {P : Program} {w : World} {K : PySem.W.Frag} {mg : Str → Option Value} {base : Heap} {f : Addr} {fd : FuncData} (F : Fun K "conductor_of" "conductor_of" stconductor_of f fd) (B : Bn mg) (csteps_of : CalD P w K mg base 2 "steps_of" Fsteps_of) : FnOk P w K mg base (L2.CX P w) 3 f fd ["c"] (spOf ⟨K, mg⟩ Fconductor_of) := by
  refine fn_ok (N := ["c", "e", "i"]) F scconductor_of (fun cdv A outer s H E hr => ?_)
  have hnd : (["c", "e", "i"] : List Str).Nodup := scconductor_of.nd
  have hu : (A.deeper (envOfC "conductor_of" (defScope stconductor_of) s.heap.objs.size f cdv)).units + 65 < cLine := by have := hr.un; omega
  have tk : Takes (cxf P w K mg base ["c", "e", "i"] "conductor_of" stconductor_of f cdv A outer s H E) (fun cls d _ H' => E cls d H') := takes_of rfl rfl rfl rfl
  have po : PassesOwn (model P w) (cxf P w K mg base ["c", "e", "i"] "conductor_of" stconductor_of f cdv A outer s H E).A (cxf P w K mg base ["c", "e", "i"] "conductor_of" stconductor_of f cdv A outer s H E).env (cxf P w K mg base ["c", "e", "i"] "conductor_of" stconductor_of f cdv A outer s H E).xe := passes_of rfl
  exact (gs_cons (gs_asg (i := 1) (m := false) hnd (by rfl) (by first | exact Or.inl rfl | exact Or.inr rfl) (ge_call (by exact csteps_of.cald) (hr.mono (by decide)) tk (by rfl) (gl_one (gv 0)) (by decide) (by rfl) (by rfl)) (by rfl) (.inl rfl))
 (gs_cons (gs_ret (ge_bin (ge_bin (gc_sum2 (by rfl) (gl_one (ge_comp (own := [("i", 2)]) (t := (.name 2)) (by rfl) hnd (gi_rng2 (by rfl) B.range (by rfl) (by rfl) (gl_more gn_int (gl_one (gc_len (by rfl) (gl_one (gv 0)) (by rfl) (by rfl) (by rfl) B.len))) (sl_cons (sl_cons sl_nil))) (blkOk_by (by rfl)) (fun _ _ _ _ _ => (gg_name (i := 2) hnd (by rfl) (by first | exact Or.inl rfl | exact Or.inr rfl) (by first | exact Or.inl rfl | exact Or.inr rfl))) (fun _ _ _ _ _ => gts_nil) (fun _ _ _ _ _ => (ge_bin (ge_bin (ge_idx (fun _ _ => rfl) (gv 1) (ge_bin (gv 2) gn_int)) (ge_idx (fun _ _ => rfl) (gv 1) (gv 2))) (ge_idx (fun _ _ => rfl) (gv 0) (gv 2)))) (fun _ => rfl) (by decide))) (by rfl) (by rfl) (by rfl) B.sum) (ge_idx (fun _ _ => rfl) (gv 0) gn_int)) gn_int))
 gs_nil))
/-! ### are_integers -/
abbrev stare_integers : Stmt := top 13
def Tare_integers : SS :=
 (sSeq2 (sRet (sAnd (sIsi ["tuple"] (sVar 0)) (sArgs allOp (sCons (sComp (sSeq (sVar 0)) (.name 1) sYes (sArgs Fis_integer (sCons (sVar 1) sNil)) (([("x", 1)] : List (Str × Nat)).map (·.2))) sNil))))
 sSkip)
def Fare_integers : List AV → Mem → Out AV := fnRun 1 2 Tare_integers
theorem scare_integers : FnScope ["value", "x"] ["value"] (defScope stare_integers) := C8.fnScope_by rfl
theorem okare_integers {P : Program} {w : World} {K : PySem.W.Frag} {mg : Str → Option Value} {base : Heap} {f : Addr} {fd : FuncData} (F : Fun K "are_integers" "are_integers" stare_integers f fd) (B : Bn mg) (cis_integer : CalD P w K mg base 1 "is_integer" Fis_integer) : FnOk P w K mg base (L2.CX P w) 2 f fd ["value"] (spOf ⟨K, mg⟩ Fare_integers) := by
  refine fn_ok (N := ["value", "x"]) F scare_integers (fun cdv A outer s H E hr => ?_)
  have hnd : (["value", "x"] : List Str).Nodup := scare_integers.nd
  have hu : (A.deeper (envOfC "are_integers" (defScope stare_integers) s.heap.objs.size f cdv)).units + 65 < cLine := by have := hr.un; omega
  have tk : Takes (cxf P w K mg base ["value", "x"] "are_integers" stare_integers f cdv A outer s H E) (fun cls d _ H' => E cls d H') := takes_of rfl rfl rfl rfl
  have po : PassesOwn (model P w) (cxf P w K mg base ["value", "x"] "are_integers" stare_integers f cdv A outer s H E).A (cxf P w K mg base ["value", "x"] "are_integers" stare_integers f cdv A outer s H E).env (cxf P w K mg base ["value", "x"] "are_integers" stare_integers f cdv A outer s H E).xe := passes_of rfl
  exact (gs_cons (gs_ret (ge_and (ge_isi1 (u := "tuple") (by rfl) B.isinstance (by decide) (pe_bltn (by rfl) B.tuple boot_tuple (by rfl)) (gv 0) (by rfl) (by rfl) (by rfl)) (ge_one1 (gc_all (by rfl) (gl_one (ge_comp (own := [("x", 1)]) (t := (.name 1)) (by rfl) hnd (gi_seq (gv 0)) (blkOk_by (by rfl)) (fun _ _ _ _ _ => (gg_name (i := 1) hnd (by rfl) (by first | exact Or.inl rfl | exact Or.inr rfl) (by first | exact Or.inl rfl | exact Or.inr rfl))) (fun _ _ _ _ _ => gts_nil) (fun _ _ _ _ _ => (ge_call (by exact cis_integer.cald) (hr.mono (by decide)) takesW (by rfl) (gl_one (gv 1)) (by decide) (by rfl) (by rfl))) (fun _ => rfl) (by decide))) (by rfl) (by rfl) (by rfl) B.all))))
 gs_nil)
/-! ### is_class -/
abbrev stis_class : Stmt := top 14
def Tis_class : SS :=
 (sSeq2 (sIfS (sOrB (sNotB (sB (sArgs Fare_integers (sCons (sVar 0) sNil)))) (sB (sCmp .Eq (sArgs lenOp (sCons (sVar 0) sNil)) (sCon (.int 0)))))
 (sSeq2 (sRet (sCon (.bl false)))
 sSkip)
 sSkip)
 (sSeq2 (sIfS (sB (sCmp .Eq (sVar 0) (sTup (sCons (sCon (.int 1)) sNil))))
 (sSeq2 (sRet (sCon (.bl true)))
 sSkip)
 sSkip)
 (sSeq2 (sIfS (sOrB (sNotB (sB (sChain .LtE .LtE (sCon (.int 2)) (sIdx (sVar 0) (sCon (.int 0))) (sCon (.int 60))))) (sOrB (sB (sCmp .Gt (sIdx (sVar 0) (sNeg (sCon (.int 1)))) (sCon (.int 300)))) (sNotB (sB (sArgs allOp (sCons (sComp (sItm zipItm (sCons (sVar 0) (sCons (sSlice (sVar 0) (some (sCon (.int 1))) none) sNil))) (.tup (.cons (.name 2) (.cons (.name 3) .nil))) sYes (sCmp .Lt (sVar 2) (sVar 3)) (([("a", 2), ("b", 3)] : List (Str × Nat)).map (·.2))) sNil))))))
 (sSeq2 (sRet (sCon (.bl false)))
 sSkip)
 sSkip)
 (sSeq2 (sAsg 1 false (sArgs Fsteps_of (sCons (sVar 0) sNil)))
 (sSeq2 (sRet (sAnd (sCmp .Eq (sIdx (sVar 1) (sNeg (sCon (.int 1)))) (sCon (.int 1))) (sAnd (sArgs allOp (sCons (sComp (sItm zipItm (sCons (sVar 1) (sCons (sSlice (sVar 1) (some (sCon (.int 1))) none) sNil))) (.tup (.cons (.name 2) (.cons (.name 3) .nil))) sYes (sCmp .Gt (sVar 2) (sVar 3)) (([("a", 2), ("b", 3)] : List (Str × Nat)).map (·.2))) sNil)) (sCmp .LtE (sArgs Fconductor_of (sCons (sVar 0) sNil)) (sCon (.int 3000))))))
 sSkip)))))
def Fis_class : List AV → Mem → Out AV := fnRun 1 4 Tis_class
theorem scis_class : FnScope ["value", "e", "a", "b"] ["value"] (defScope stis_class) := C8.fnScope_by rfl
theorem okis_class {P : Program} {w : World} {K : PySem.W.Frag} {mg : Str → Option Value} {base : Heap} {f : Addr} {fd : FuncData} (F : Fun K "is_class" "is_class" stis_class f fd) (B : Bn mg) (C : Cs ⟨K, mg⟩) (care_integers : CalD P w K mg base 2 "are_integers" Fare_integers) (cconductor_of : CalD P w K mg base 3 "conductor_of" Fconductor_of) (csteps_of : CalD P w K mg base 2 "steps_of" Fsteps_of) : FnOk P w K mg base (L2.CX P w) 4 f fd ["value"] (spOf ⟨K, mg⟩ Fis_class) := by
  refine fn_ok (N := ["value", "e", "a", "b"]) F scis_class (fun cdv A outer s H E hr => ?_)
  have hnd : (["value", "e", "a", "b"] : List Str).Nodup := scis_class.nd
  have hu : (A.deeper (envOfC "is_class" (defScope stis_class) s.heap.objs.size f cdv)).units + 65 < cLine := by have := hr.un; omega
  have tk : Takes (cxf P w K mg base ["value", "e", "a", "b"] "is_class" stis_class f cdv A outer s H E) (fun cls d _ H' => E cls d H') := takes_of rfl rfl rfl rfl
  have po : PassesOwn (model P w) (cxf P w K mg base ["value", "e", "a", "b"] "is_class" stis_class f cdv A outer s H E).A (cxf P w K mg base ["value", "e", "a", "b"] "is_class" stis_class f cdv A outer s H E).env (cxf P w K mg base ["value", "e", "a", "b"] "is_class" stis_class f cdv A outer s H E).xe := passes_of rfl
  exact (gs_cons (gs_if (gb_or (gb_not (gb_truth (ge_call (by exact care_integers.cald) (hr.mono (by decide)) tk (by rfl) (gl_one (gv 0)) (by decide) (by rfl) (by rfl)) (fun _ => rfl))) (gb_or1 (gb_cmp hu (by rfl) (gc_len (by rfl) (gl_one (gv 0)) (by rfl) (by rfl) (by rfl) B.len) gn_int))).pt
 (gs_cons (gs_ret gn_bl)
 gs_nil)
 gs_nil)
 (gs_cons (gs_if (gb_cmp hu (by rfl) (gv 0) (ge_tup (gl_one gn_int)))
 (gs_cons (gs_ret gn_bl)
 gs_nil)
 gs_nil)
 (gs_cons (gs_if (gb_or (gb_not (gb_chain hu (by rfl) gn_int (ge_idx (fun _ _ => rfl) (gv 0) gn_int) (ge_cst C.kMOST_FIRST (by rfl) (by decide)))) (gb_or (gb_cmp hu (by rfl) (ge_idx (fun _ _ => rfl) (gv 0) (ge_neg gn_int)) (ge_cst C.kMOST_ITEM (by rfl) (by decide))) (gb_or1 (gb_not (gb_truth (gc_all (by rfl) (gl_one (ge_comp (own := [("a", 2), ("b", 3)]) (t := (.tup (.cons (.name 2) (.cons (.name 3) .nil)))) (by rfl) hnd (gi_zip (by rfl) B.zip (fun h => RZ.pi_zipA (by rfl) B.zip h) (gl_more (gv 0) (gl_one (gk_10 (gv 0) gn_int)))) (blkOk_by (by rfl)) (fun _ _ _ _ _ => (gg_tup (n := 2) (by rfl) (gg_cons (gg_name (i := 2) hnd (by rfl) (by first | exact Or.inl rfl | exact Or.inr rfl) (by first | exact Or.inl rfl | exact Or.inr rfl)) (gg_cons (gg_name (i := 3) hnd (by rfl) (by first | exact Or.inl rfl | exact Or.inr rfl) (by first | exact Or.inl rfl | exact Or.inr rfl)) gg_nil (by rfl)) (by rfl)) (by rfl) (by rfl) (tg_lenS (tg_lenS tg_len0)))) (fun _ _ _ _ _ => gts_nil) (fun _ _ _ _ _ => (ge_cmp hu (by rfl) (gv 2) (gv 3))) (fun _ => rfl) (by decide))) (by rfl) (by rfl) (by rfl) B.all) (fun _ => rfl)))))).pt
 (gs_cons (gs_ret gn_bl)
 gs_nil)
 gs_nil)
 (gs_cons (gs_asg (i := 1) (m := false) hnd (by rfl) (by first | exact Or.inl rfl | exact Or.inr rfl) (ge_call (by exact csteps_of.cald) (hr.mono (by decide)) tk (by rfl) (gl_one (gv 0)) (by decide) (by rfl) (by rfl)) (by rfl) (.inl rfl))
 (gs_cons (gs_ret (ge_and (ge_cmp hu (by rfl) (ge_idx (fun _ _ => rfl) (gv 1) (ge_neg gn_int)) gn_int) (ge_and (gc_all (by rfl) (gl_one (ge_comp (own := [("a", 2), ("b", 3)]) (t := (.tup (.cons (.name 2) (.cons (.name 3) .nil)))) (by rfl) hnd (gi_zip (by rfl) B.zip (fun h => RZ.pi_zipA (by rfl) B.zip h) (gl_more (gv 1) (gl_one (gk_10 (gv 1) gn_int)))) (blkOk_by (by rfl)) (fun _ _ _ _ _ => (gg_tup (n := 2) (by rfl) (gg_cons (gg_name (i := 2) hnd (by rfl) (by first | exact Or.inl rfl | exact Or.inr rfl) (by first | exact Or.inl rfl | exact Or.inr rfl)) (gg_cons (gg_name (i := 3) hnd (by rfl) (by first | exact Or.inl rfl | exact Or.inr rfl) (by first | exact Or.inl rfl | exact Or.inr rfl)) gg_nil (by rfl)) (by rfl)) (by rfl) (by rfl) (tg_lenS (tg_lenS tg_len0)))) (fun _ _ _ _ _ => gts_nil) (fun _ _ _ _ _ => (ge_cmp hu (by rfl) (gv 2) (gv 3))) (fun _ => rfl) (by decide))) (by rfl) (by rfl) (by rfl) B.all) (ge_one1 (ge_cmp hu (by rfl) (ge_call (by exact cconductor_of.cald) (hr.mono (by decide)) tk (by rfl) (gl_one (gv 0)) (by decide) (by rfl) (by rfl)) (ge_cst C.kMOST_CONDUCTOR (by rfl) (by decide)))))))
 gs_nil)))))
/-! ### check_class -/
abbrev stcheck_class : Stmt := top 15
def Tcheck_class : SS :=
 (sSeq2 (sIfS (sNotB (sB (sArgs Fis_class (sCons (sVar 0) sNil))))
 (sSeq2 (sRaise "Malformed" [])
 sSkip)
 sSkip)
 sSkip)
def Fcheck_class : List AV → Mem → Out AV := fnRun 1 1 Tcheck_class
theorem sccheck_class : FnScope ["c"] ["c"] (defScope stcheck_class) := C8.fnScope_by rfl
theorem okcheck_class {P : Program} {w : World} {K : PySem.W.Frag} {mg : Str → Option Value} {base : Heap} {f CM CR fR : Addr} {fd : FuncData} (F : Fun K "check_class" "check_class" stcheck_class f fd) (T : Errs P K mg CM CR fR) (cis_class : CalD P w K mg base 4 "is_class" Fis_class) : FnOk P w K mg base (L2.CX P w) 5 f fd ["c"] (spOf ⟨K, mg⟩ Fcheck_class) := by
  refine fn_ok (N := ["c"]) F sccheck_class (fun cdv A outer s H E hr => ?_)
  have hnd : (["c"] : List Str).Nodup := sccheck_class.nd
  have hu : (A.deeper (envOfC "check_class" (defScope stcheck_class) s.heap.objs.size f cdv)).units + 65 < cLine := by have := hr.un; omega
  have tk : Takes (cxf P w K mg base ["c"] "check_class" stcheck_class f cdv A outer s H E) (fun cls d _ H' => E cls d H') := takes_of rfl rfl rfl rfl
  have po : PassesOwn (model P w) (cxf P w K mg base ["c"] "check_class" stcheck_class f cdv A outer s H E).A (cxf P w K mg base ["c"] "check_class" stcheck_class f cdv A outer s H E).env (cxf P w K mg base ["c"] "check_class" stcheck_class f cdv A outer s H E).xe := passes_of rfl
  exact (gs_cons (gs_if (gb_not (gb_truth (ge_call (by exact cis_class.cald) (hr.mono (by decide)) tk (by rfl) (gl_one (gv 0)) (by decide) (by rfl) (by rfl)) (fun _ => rfl)))
 (gs_cons (gs_rM T (by rfl) tk (by rfl))
 gs_nil)
 gs_nil)
 gs_nil)
/-! ### lot_from -/
abbrev stlot_from : Stmt := top 16
def Tlot_from : SS :=
 (sSeq2 (sIfS (sB (sCmp .Eq (sArgs lenOp (sCons (sVar 0) sNil)) (sCon (.int 1))))
 (sSeq2 (sRet (sLst (sCons (sCon (.int 1)) sNil)))
 sSkip)
 sSkip)
 (sSeq2 (sPar2 2 3 false true (sArgs Fsteps_of (sCons (sVar 0) sNil)) (sLst (sCons (sIdx (sVar 0) (sCon (.int 0))) (sCons (sIdx (sVar 0) (sCon (.int 1))) sNil))))
 (sSeq2 (sFor (sRng (sCons (sCon (.int 1)) (sCons (sBin .Sub (sArgs lenOp (sCons (sVar 0) sNil)) (sCon (.int 1))) sNil))) (.name 1)
 (sSeq2 (sExpr (sMeth mAppend (sVar 3) (sCons (sBin .Sub (sBin .Add (sBin .Mult (sBin .FloorDiv (sIdx (sVar 2) (sBin .Sub (sVar 1) (sCon (.int 1)))) (sIdx (sVar 2) (sVar 1))) (sIdx (sVar 3) (sVar 1))) (sIdx (sVar 0) (sBin .Add (sVar 1) (sCon (.int 1))))) (sIdx (sVar 0) (sVar 1))) sNil)))
 sSkip))
 (sSeq2 (sRet (sVar 3))
 sSkip))))
def Flot_from : List AV → Mem → Out AV := fnRun 1 4 Tlot_from
theorem sclot_from : FnScope ["c", "i", "e", "found"] ["c"] (defScope stlot_from) := C8.fnScope_by rfl
theorem oklot_from {P : Program} {w : World} {K : PySem.W.Frag} {mg : Str → Option Value} {base : Heap} {f : Addr} {fd : FuncData} (F : Fun K "lot_from" "lot_from" stlot_from f fd) (B : Bn mg) (csteps_of : CalD P w K mg base 2 "steps_of" Fsteps_of) : FnOk P w K mg base (L2.CX P w) 3 f fd ["c"] (spOf ⟨K, mg⟩ Flot_from) := by
  refine fn_ok (N := ["c", "i", "e", "found"]) F sclot_from (fun cdv A outer s H E hr => ?_)
  have hnd : (["c", "i", "e", "found"] : List Str).Nodup := sclot_from.nd
  have hu : (A.deeper (envOfC "lot_from" (defScope stlot_from) s.heap.objs.size f cdv)).units + 65 < cLine := by have := hr.un; omega
  have tk : Takes (cxf P w K mg base ["c", "i", "e", "found"] "lot_from" stlot_from f cdv A outer s H E) (fun cls d _ H' => E cls d H') := takes_of rfl rfl rfl rfl
  have po : PassesOwn (model P w) (cxf P w K mg base ["c", "i", "e", "found"] "lot_from" stlot_from f cdv A outer s H E).A (cxf P w K mg base ["c", "i", "e", "found"] "lot_from" stlot_from f cdv A outer s H E).env (cxf P w K mg base ["c", "i", "e", "found"] "lot_from" stlot_from f cdv A outer s H E).xe := passes_of rfl
  exact (gs_cons (gs_if (gb_cmp hu (by rfl) (gc_len (by rfl) (gl_one (gv 0)) (by rfl) (by rfl) (by rfl) B.len) gn_int)
 (gs_cons (gs_ret (ge_lst (gl_one gn_int)))
 gs_nil)
 gs_nil)
 (gs_cons (gs_par2 (i := 2) (j := 3) (m := false) (n := true) (by rfl) hnd (by rfl) (by rfl) (by decide) (by rfl) (by rfl) (ge_call (by exact csteps_of.cald) (hr.mono (by decide)) tk (by rfl) (gl_one (gv 0)) (by decide) (by rfl) (by rfl)) (ge_lst (gl_more (ge_idx (fun _ _ => rfl) (gv 0) gn_int) (gl_one (ge_idx (fun _ _ => rfl) (gv 0) gn_int)))) (by rfl) (by rfl) (by rfl) (by rfl))
 (gs_cons (gs_for (t := (.name 1)) po (by rfl) (gi_rng2 (by rfl) B.range (by rfl) (by rfl) (gl_more gn_int (gl_one (ge_bin (gc_len (by rfl) (gl_one (gv 0)) (by rfl) (by rfl) (by rfl) B.len) gn_int))) (sl_cons (sl_cons sl_nil))) (gg_name (i := 1) hnd (by rfl) (by first | exact Or.inl rfl | exact Or.inr rfl) (by first | exact Or.inl rfl | exact Or.inr rfl))
 (gs_cons (gs_expr (gm_append (gv 3) (gl_one (ge_bin (ge_bin (ge_bin (ge_bin (ge_idx (fun _ _ => rfl) (gv 2) (ge_bin (gv 1) gn_int)) (ge_idx (fun _ _ => rfl) (gv 2) (gv 1))) (ge_idx (fun _ _ => rfl) (gv 3) (gv 1))) (ge_idx (fun _ _ => rfl) (gv 0) (ge_bin (gv 1) gn_int))) (ge_idx (fun _ _ => rfl) (gv 0) (gv 1)))) (by rfl) (by rfl) (by rfl) (by rfl) (by rfl)) (by rfl))
 gs_nil) (fun _ => rfl))
 (gs_cons (gs_ret (gv 3))
 gs_nil))))
/-! ### lot_of_class -/
abbrev stlot_of_class : Stmt := top 17
def Tlot_of_class : SS :=
 (sSeq2 (sExpr (sArgs Fcheck_class (sCons (sVar 0) sNil)))
 (sSeq2 (sRet (sArgs tupleOp (sCons (sArgs Flot_from (sCons (sVar 0) sNil)) sNil)))
 sSkip))
def Flot_of_class : List AV → Mem → Out AV := fnRun 1 1 Tlot_of_class
theorem sclot_of_class : FnScope ["c"] ["c"] (defScope stlot_of_class) := C8.fnScope_by rfl
theorem oklot_of_class {P : Program} {w : World} {K : PySem.W.Frag} {mg : Str → Option Value} {base : Heap} {f : Addr} {fd : FuncData} (F : Fun K "lot_of_class" "lot_of_class" stlot_of_class f fd) (B : Bn mg) (ccheck_class : CalD P w K mg base 5 "check_class" Fcheck_class) (clot_from : CalD P w K mg base 3 "lot_from" Flot_from) : FnOk P w K mg base (L2.CX P w) 6 f fd ["c"] (spOf ⟨K, mg⟩ Flot_of_class) := by
  refine fn_ok (N := ["c"]) F sclot_of_class (fun cdv A outer s H E hr => ?_)
  have hnd : (["c"] : List Str).Nodup := sclot_of_class.nd
  have hu : (A.deeper (envOfC "lot_of_class" (defScope stlot_of_class) s.heap.objs.size f cdv)).units + 65 < cLine := by have := hr.un; omega
  have tk : Takes (cxf P w K mg base ["c"] "lot_of_class" stlot_of_class f cdv A outer s H E) (fun cls d _ H' => E cls d H') := takes_of rfl rfl rfl rfl
  have po : PassesOwn (model P w) (cxf P w K mg base ["c"] "lot_of_class" stlot_of_class f cdv A outer s H E).A (cxf P w K mg base ["c"] "lot_of_class" stlot_of_class f cdv A outer s H E).env (cxf P w K mg base ["c"] "lot_of_class" stlot_of_class f cdv A outer s H E).xe := passes_of rfl
  exact (gs_cons (gs_expr (ge_call (by exact ccheck_class.cald) (hr.mono (by decide)) tk (by rfl) (gl_one (gv 0)) (by decide) (by rfl) (by rfl)) (by rfl))
 (gs_cons (gs_ret (gc_tuple (by rfl) (gl_one (ge_call (by exact clot_from.cald) (hr.mono (by decide)) tk (by rfl) (gl_one (gv 0)) (by decide) (by rfl) (by rfl))) (by rfl) (by rfl) (by rfl) B.tuple))
 gs_nil))
/-! ### is_generators -/
abbrev stis_generators : Stmt := top 19
def Tis_generators : SS :=
 (sSeq2 (sIfS (sOrB (sNotB (sB (sArgs Fare_integers (sCons (sVar 0) sNil)))) (sOrB (sNotB (sB (sChain .LtE .LtE (sCon (.int 1)) (sArgs lenOp (sCons (sVar 0) sNil)) (sCon (.int 12))))) (sOrB (sB (sCmp .Lt (sIdx (sVar 0) (sCon (.int 0))) (sCon (.int 1)))) (sB (sCmp .Gt (sIdx (sVar 0) (sNeg (sCon (.int 1)))) (sCon (.int 1000)))))))
 (sSeq2 (sRet (sCon (.bl false)))
 sSkip)
 sSkip)
 (sSeq2 (sRet (sAnd (sArgs allOp (sCons (sComp (sItm zipItm (sCons (sVar 0) (sCons (sSlice (sVar 0) (some (sCon (.int 1))) none) sNil))) (.tup (.cons (.name 1) (.cons (.name 2) .nil))) sYes (sCmp .Lt (sVar 1) (sVar 2)) (([("a", 1), ("b", 2)] : List (Str × Nat)).map (·.2))) sNil)) (sCmp .Eq (sIdx (sArgs Fsteps_of (sCons (sVar 0) sNil)) (sNeg (sCon (.int 1)))) (sCon (.int 1)))))
 sSkip))
def Fis_generators : List AV → Mem → Out AV := fnRun 1 3 Tis_generators
theorem scis_generators : FnScope ["value", "a", "b"] ["value"] (defScope stis_generators) := C8.fnScope_by rfl
theorem okis_generators {P : Program} {w : World} {K : PySem.W.Frag} {mg : Str → Option Value} {base : Heap} {f : Addr} {fd : FuncData} (F : Fun K "is_generators" "is_generators" stis_generators f fd) (B : Bn mg) (care_integers : CalD P w K mg base 2 "are_integers" Fare_integers) (csteps_of : CalD P w K mg base 2 "steps_of" Fsteps_of) : FnOk P w K mg base (L2.CX P w) 3 f fd ["value"] (spOf ⟨K, mg⟩ Fis_generators) := by
  refine fn_ok (N := ["value", "a", "b"]) F scis_generators (fun cdv A outer s H E hr => ?_)
  have hnd : (["value", "a", "b"] : List Str).Nodup := scis_generators.nd
  have hu : (A.deeper (envOfC "is_generators" (defScope stis_generators) s.heap.objs.size f cdv)).units + 65 < cLine := by have := hr.un; omega
  have tk : Takes (cxf P w K mg base ["value", "a", "b"] "is_generators" stis_generators f cdv A outer s H E) (fun cls d _ H' => E cls d H') := takes_of rfl rfl rfl rfl
  have po : PassesOwn (model P w) (cxf P w K mg base ["value", "a", "b"] "is_generators" stis_generators f cdv A outer s H E).A (cxf P w K mg base ["value", "a", "b"] "is_generators" stis_generators f cdv A outer s H E).env (cxf P w K mg base ["value", "a", "b"] "is_generators" stis_generators f cdv A outer s H E).xe := passes_of rfl
  exact (gs_cons (gs_if (gb_or (gb_not (gb_truth (ge_call (by exact care_integers.cald) (hr.mono (by decide)) tk (by rfl) (gl_one (gv 0)) (by decide) (by rfl) (by rfl)) (fun _ => rfl))) (gb_or (gb_not (gb_chain hu (by rfl) gn_int (gc_len (by rfl) (gl_one (gv 0)) (by rfl) (by rfl) (by rfl) B.len) gn_int)) (gb_or (gb_cmp hu (by rfl) (ge_idx (fun _ _ => rfl) (gv 0) gn_int) gn_int) (gb_or1 (gb_cmp hu (by rfl) (ge_idx (fun _ _ => rfl) (gv 0) (ge_neg gn_int)) gn_int))))).pt
 (gs_cons (gs_ret gn_bl)
 gs_nil)
 gs_nil)
 (gs_cons (gs_ret (ge_and (gc_all (by rfl) (gl_one (ge_comp (own := [("a", 1), ("b", 2)]) (t := (.tup (.cons (.name 1) (.cons (.name 2) .nil)))) (by rfl) hnd (gi_zip (by rfl) B.zip (fun h => RZ.pi_zipA (by rfl) B.zip h) (gl_more (gv 0) (gl_one (gk_10 (gv 0) gn_int)))) (blkOk_by (by rfl)) (fun _ _ _ _ _ => (gg_tup (n := 2) (by rfl) (gg_cons (gg_name (i := 1) hnd (by rfl) (by first | exact Or.inl rfl | exact Or.inr rfl) (by first | exact Or.inl rfl | exact Or.inr rfl)) (gg_cons (gg_name (i := 2) hnd (by rfl) (by first | exact Or.inl rfl | exact Or.inr rfl) (by first | exact Or.inl rfl | exact Or.inr rfl)) gg_nil (by rfl)) (by rfl)) (by rfl) (by rfl) (tg_lenS (tg_lenS tg_len0)))) (fun _ _ _ _ _ => gts_nil) (fun _ _ _ _ _ => (ge_cmp hu (by rfl) (gv 1) (gv 2))) (fun _ => rfl) (by decide))) (by rfl) (by rfl) (by rfl) B.all) (ge_one1 (ge_cmp hu (by rfl) (ge_idx (fun _ _ => rfl) (ge_call (by exact csteps_of.cald) (hr.mono (by decide)) tk (by rfl) (gl_one (gv 0)) (by decide) (by rfl) (by rfl)) (ge_neg gn_int)) gn_int))))
 gs_nil))
/-! ### broken_generator -/
abbrev stbroken_generator : Stmt := top 18
def Tbroken_generator : SS :=
 (sSeq2 (sIfS (sNotB (sB (sArgs Fis_generators (sCons (sVar 0) sNil))))
 (sSeq2 (sRaise "Malformed" [])
 sSkip)
 sSkip)
 (sSeq2 (sIfS (sB (sCmp .Eq (sVar 0) (sTup (sCons (sCon (.int 1)) sNil))))
 (sSeq2 (sRet (sCon .non))
 sSkip)
 sSkip)
 (sSeq2 (sAsg 1 false (sArgs Fsteps_of (sCons (sVar 0) sNil)))
 (sSeq2 (sFor (sRng (sCons (sCon (.int 1)) (sCons (sArgs lenOp (sCons (sVar 0) sNil)) sNil))) (.name 2)
 (sSeq2 (sIfS (sB (sCmp .Eq (sIdx (sVar 1) (sVar 2)) (sIdx (sVar 1) (sBin .Sub (sVar 2) (sCon (.int 1))))))
 (sSeq2 (sRet (sVar 2))
 sSkip)
 sSkip)
 (sSeq2 (sIfS (sAndB (sB (sCmp .Gt (sVar 2) (sCon (.int 1)))) (sB (sCmp .GtE (sBin .Mult (sBin .FloorDiv (sIdx (sVar 1) (sBin .Sub (sVar 2) (sCon (.int 2)))) (sIdx (sVar 1) (sBin .Sub (sVar 2) (sCon (.int 1))))) (sIdx (sVar 0) (sBin .Sub (sVar 2) (sCon (.int 1))))) (sIdx (sVar 0) (sVar 2)))))
 (sSeq2 (sRet (sVar 2))
 sSkip)
 sSkip)
 sSkip)))
 (sSeq2 (sRet (sCon .non))
 sSkip)))))
def Fbroken_generator : List AV → Mem → Out AV := fnRun 1 3 Tbroken_generator
theorem scbroken_generator : FnScope ["lot", "e", "i"] ["lot"] (defScope stbroken_generator) := C8.fnScope_by rfl
theorem okbroken_generator {P : Program} {w : World} {K : PySem.W.Frag} {mg : Str → Option Value} {base : Heap} {f CM CR fR : Addr} {fd : FuncData} (F : Fun K "broken_generator" "broken_generator" stbroken_generator f fd) (B : Bn mg) (T : Errs P K mg CM CR fR) (cis_generators : CalD P w K mg base 3 "is_generators" Fis_generators) (csteps_of : CalD P w K mg base 2 "steps_of" Fsteps_of) : FnOk P w K mg base (L2.CX P w) 4 f fd ["lot"] (spOf ⟨K, mg⟩ Fbroken_generator) := by
  refine fn_ok (N := ["lot", "e", "i"]) F scbroken_generator (fun cdv A outer s H E hr => ?_)
  have hnd : (["lot", "e", "i"] : List Str).Nodup := scbroken_generator.nd
  have hu : (A.deeper (envOfC "broken_generator" (defScope stbroken_generator) s.heap.objs.size f cdv)).units + 65 < cLine := by have := hr.un; omega
  have tk : Takes (cxf P w K mg base ["lot", "e", "i"] "broken_generator" stbroken_generator f cdv A outer s H E) (fun cls d _ H' => E cls d H') := takes_of rfl rfl rfl rfl
  have po : PassesOwn (model P w) (cxf P w K mg base ["lot", "e", "i"] "broken_generator" stbroken_generator f cdv A outer s H E).A (cxf P w K mg base ["lot", "e", "i"] "broken_generator" stbroken_generator f cdv A outer s H E).env (cxf P w K mg base ["lot", "e", "i"] "broken_generator" stbroken_generator f cdv A outer s H E).xe := passes_of rfl
  exact (gs_cons (gs_if (gb_not (gb_truth (ge_call (by exact cis_generators.cald) (hr.mono (by decide)) tk (by rfl) (gl_one (gv 0)) (by decide) (by rfl) (by rfl)) (fun _ => rfl)))
 (gs_cons (gs_rM T (by rfl) tk (by rfl))
 gs_nil)
 gs_nil)
 (gs_cons (gs_if (gb_cmp hu (by rfl) (gv 0) (ge_tup (gl_one gn_int)))
 (gs_cons (gs_ret gn_non)
 gs_nil)
 gs_nil)
 (gs_cons (gs_asg (i := 1) (m := false) hnd (by rfl) (by first | exact Or.inl rfl | exact Or.inr rfl) (ge_call (by exact csteps_of.cald) (hr.mono (by decide)) tk (by rfl) (gl_one (gv 0)) (by decide) (by rfl) (by rfl)) (by rfl) (.inl rfl))
 (gs_cons (gs_for (t := (.name 2)) po (by rfl) (gi_rng2 (by rfl) B.range (by rfl) (by rfl) (gl_more gn_int (gl_one (gc_len (by rfl) (gl_one (gv 0)) (by rfl) (by rfl) (by rfl) B.len))) (sl_cons (sl_cons sl_nil))) (gg_name (i := 2) hnd (by rfl) (by first | exact Or.inl rfl | exact Or.inr rfl) (by first | exact Or.inl rfl | exact Or.inr rfl))
 (gs_cons (gs_if (gb_cmp hu (by rfl) (ge_idx (fun _ _ => rfl) (gv 1) (gv 2)) (ge_idx (fun _ _ => rfl) (gv 1) (ge_bin (gv 2) gn_int)))
 (gs_cons (gs_ret (gv 2))
 gs_nil)
 gs_nil)
 (gs_cons (gs_if (gb_and (gb_cmp hu (by rfl) (gv 2) gn_int) (gb_and1 (gb_cmp hu (by rfl) (ge_bin (ge_bin (ge_idx (fun _ _ => rfl) (gv 1) (ge_bin (gv 2) gn_int)) (ge_idx (fun _ _ => rfl) (gv 1) (ge_bin (gv 2) gn_int))) (ge_idx (fun _ _ => rfl) (gv 0) (ge_bin (gv 2) gn_int))) (ge_idx (fun _ _ => rfl) (gv 0) (gv 2))))).pt
 (gs_cons (gs_ret (gv 2))
 gs_nil)
 gs_nil)
 gs_nil)) (fun _ => rfl))
 (gs_cons (gs_ret gn_non)
 gs_nil)))))
/-! ### class_of_lot -/
abbrev stclass_of_lot : Stmt := top 20
def Tclass_of_lot : SS :=
 (sSeq2 (sIfS (sNotB (sB (sArgs Fis_generators (sCons (sVar 0) sNil))))
 (sSeq2 (sRaise "Malformed" [])
 sSkip)
 sSkip)
 (sSeq2 (sIfS (sB (sCmp .IsNot (sArgs Fbroken_generator (sCons (sVar 0) sNil)) (sCon .non)))
 (sSeq2 (sRaise "Refused" [("reason", .str "branch")])
 sSkip)
 sSkip)
 (sSeq2 (sIfS (sB (sCmp .Eq (sArgs lenOp (sCons (sVar 0) sNil)) (sCon (.int 1))))
 (sSeq2 (sRet (sVar 0))
 sSkip)
 sSkip)
 (sSeq2 (sPar2 2 3 false true (sArgs Fsteps_of (sCons (sVar 0) sNil)) (sLst (sCons (sIdx (sVar 0) (sCon (.int 0))) (sCons (sIdx (sVar 0) (sCon (.int 1))) sNil))))
 (sSeq2 (sFor (sRng (sCons (sCon (.int 1)) (sCons (sBin .Sub (sArgs lenOp (sCons (sVar 0) sNil)) (sCon (.int 1))) sNil))) (.name 1)
 (sSeq2 (sExpr (sMeth mAppend (sVar 3) (sCons (sBin .Sub (sBin .Add (sIdx (sVar 3) (sVar 1)) (sIdx (sVar 0) (sBin .Add (sVar 1) (sCon (.int 1))))) (sBin .Mult (sBin .FloorDiv (sIdx (sVar 2) (sBin .Sub (sVar 1) (sCon (.int 1)))) (sIdx (sVar 2) (sVar 1))) (sIdx (sVar 0) (sVar 1)))) sNil)))
 sSkip))
 (sSeq2 (sIfS (sNotB (sB (sArgs Fis_class (sCons (sArgs tupleOp (sCons (sVar 3) sNil)) sNil))))
 (sSeq2 (sRaise "Refused" [("reason", .str "large")])
 sSkip)
 sSkip)
 (sSeq2 (sRet (sArgs tupleOp (sCons (sVar 3) sNil)))
 sSkip)))))))
def Fclass_of_lot : List AV → Mem → Out AV := fnRun 1 4 Tclass_of_lot
theorem scclass_of_lot : FnScope ["lot", "i", "e", "found"] ["lot"] (defScope stclass_of_lot) := C8.fnScope_by rfl
theorem okclass_of_lot {P : Program} {w : World} {K : PySem.W.Frag} {mg : Str → Option Value} {base : Heap} {f CM CR fR : Addr} {fd : FuncData} (F : Fun K "class_of_lot" "class_of_lot" stclass_of_lot f fd) (B : Bn mg) (T : Errs P K mg CM CR fR) (cbroken_generator : CalD P w K mg base 4 "broken_generator" Fbroken_generator) (cis_class : CalD P w K mg base 4 "is_class" Fis_class) (cis_generators : CalD P w K mg base 3 "is_generators" Fis_generators) (csteps_of : CalD P w K mg base 2 "steps_of" Fsteps_of) : FnOk P w K mg base (L2.CX P w) 5 f fd ["lot"] (spOf ⟨K, mg⟩ Fclass_of_lot) := by
  refine fn_ok (N := ["lot", "i", "e", "found"]) F scclass_of_lot (fun cdv A outer s H E hr => ?_)
  have hnd : (["lot", "i", "e", "found"] : List Str).Nodup := scclass_of_lot.nd
  have hu : (A.deeper (envOfC "class_of_lot" (defScope stclass_of_lot) s.heap.objs.size f cdv)).units + 65 < cLine := by have := hr.un; omega
  have tk : Takes (cxf P w K mg base ["lot", "i", "e", "found"] "class_of_lot" stclass_of_lot f cdv A outer s H E) (fun cls d _ H' => E cls d H') := takes_of rfl rfl rfl rfl
  have po : PassesOwn (model P w) (cxf P w K mg base ["lot", "i", "e", "found"] "class_of_lot" stclass_of_lot f cdv A outer s H E).A (cxf P w K mg base ["lot", "i", "e", "found"] "class_of_lot" stclass_of_lot f cdv A outer s H E).env (cxf P w K mg base ["lot", "i", "e", "found"] "class_of_lot" stclass_of_lot f cdv A outer s H E).xe := passes_of rfl
  exact (gs_cons (gs_if (gb_not (gb_truth (ge_call (by exact cis_generators.cald) (hr.mono (by decide)) tk (by rfl) (gl_one (gv 0)) (by decide) (by rfl) (by rfl)) (fun _ => rfl)))
 (gs_cons (gs_rM T (by rfl) tk (by rfl))
 gs_nil)
 gs_nil)
 (gs_cons (gs_if (gb_cmp hu (by rfl) (ge_call (by exact cbroken_generator.cald) (hr.mono (by decide)) tk (by rfl) (gl_one (gv 0)) (by decide) (by rfl) (by rfl)) gn_non)
 (gs_cons (gs_rR T (by rfl) tk hr (by rfl))
 gs_nil)
 gs_nil)
 (gs_cons (gs_if (gb_cmp hu (by rfl) (gc_len (by rfl) (gl_one (gv 0)) (by rfl) (by rfl) (by rfl) B.len) gn_int)
 (gs_cons (gs_ret (gv 0))
 gs_nil)
 gs_nil)
 (gs_cons (gs_par2 (i := 2) (j := 3) (m := false) (n := true) (by rfl) hnd (by rfl) (by rfl) (by decide) (by rfl) (by rfl) (ge_call (by exact csteps_of.cald) (hr.mono (by decide)) tk (by rfl) (gl_one (gv 0)) (by decide) (by rfl) (by rfl)) (ge_lst (gl_more (ge_idx (fun _ _ => rfl) (gv 0) gn_int) (gl_one (ge_idx (fun _ _ => rfl) (gv 0) gn_int)))) (by rfl) (by rfl) (by rfl) (by rfl))
 (gs_cons (gs_for (t := (.name 1)) po (by rfl) (gi_rng2 (by rfl) B.range (by rfl) (by rfl) (gl_more gn_int (gl_one (ge_bin (gc_len (by rfl) (gl_one (gv 0)) (by rfl) (by rfl) (by rfl) B.len) gn_int))) (sl_cons (sl_cons sl_nil))) (gg_name (i := 1) hnd (by rfl) (by first | exact Or.inl rfl | exact Or.inr rfl) (by first | exact Or.inl rfl | exact Or.inr rfl))
 (gs_cons (gs_expr (gm_append (gv 3) (gl_one (ge_bin (ge_bin (ge_idx (fun _ _ => rfl) (gv 3) (gv 1)) (ge_idx (fun _ _ => rfl) (gv 0) (ge_bin (gv 1) gn_int))) (ge_bin (ge_bin (ge_idx (fun _ _ => rfl) (gv 2) (ge_bin (gv 1) gn_int)) (ge_idx (fun _ _ => rfl) (gv 2) (gv 1))) (ge_idx (fun _ _ => rfl) (gv 0) (gv 1))))) (by rfl) (by rfl) (by rfl) (by rfl) (by rfl)) (by rfl))
 gs_nil) (fun _ => rfl))
 (gs_cons (gs_if (gb_not (gb_truth (ge_call (by exact cis_class.cald) (hr.mono (by decide)) tk (by rfl) (gl_one (gc_tuple (by rfl) (gl_one (gv 3)) (by rfl) (by rfl) (by rfl) B.tuple)) (by decide) (by rfl) (by rfl)) (fun _ => rfl)))
 (gs_cons (gs_rR T (by rfl) tk hr (by rfl))
 gs_nil)
 gs_nil)
 (gs_cons (gs_ret (gc_tuple (by rfl) (gl_one (gv 3)) (by rfl) (by rfl) (by rfl) B.tuple))
 gs_nil)))))))
/-! ### _law_state -/
abbrev st_law_state : Stmt := top 22
def T_law_state : SS :=
 (sSeq2 (sAsg 1 false (sCon (.int 0)))
 (sSeq2 (sAsg 2 false (sCon (.int 1)))
 (sSeq2 (sFor (sSeq (sSlice (sVar 0) none (some (sCon (.int 63))))) (.name 3)
 (sSeq2 (sAsg 1 false (sBin .Add (sBin .Mult (sVar 1) (sCon (.int 1000003))) (sArgs absOp (sCons (sVar 3) sNil))))
 (sSeq2 (sAsg 2 false (sBin .Mod (sArgs intOp (sCons (sBin .Add (sBin .Mult (sVar 2) (sCon (.int 48271))) (sVar 3)) sNil)) (sCon (.int 2147483647))))
 sSkip)))
 (sSeq2 (sRet (sLst (sCons (sVar 1) (sCons (sVar 2) sNil))))
 sSkip))))
def F_law_state : List AV → Mem → Out AV := fnRun 1 4 T_law_state
theorem sc_law_state : FnScope ["script", "seed", "total", "cell"] ["script"] (defScope st_law_state) := C8.fnScope_by rfl
theorem ok_law_state {P : Program} {w : World} {K : PySem.W.Frag} {mg : Str → Option Value} {base : Heap} {f : Addr} {fd : FuncData} (F : Fun K "_law_state" "_law_state" st_law_state f fd) (B : Bn mg) : FnOk P w K mg base (L2.CX P w) 1 f fd ["script"] (spOf ⟨K, mg⟩ F_law_state) := by
  refine fn_ok (N := ["script", "seed", "total", "cell"]) F sc_law_state (fun cdv A outer s H E hr => ?_)
  have hnd : (["script", "seed", "total", "cell"] : List Str).Nodup := sc_law_state.nd
  have hu : (A.deeper (envOfC "_law_state" (defScope st_law_state) s.heap.objs.size f cdv)).units + 65 < cLine := by have := hr.un; omega
  have tk : Takes (cxf P w K mg base ["script", "seed", "total", "cell"] "_law_state" st_law_state f cdv A outer s H E) (fun cls d _ H' => E cls d H') := takes_of rfl rfl rfl rfl
  have po : PassesOwn (model P w) (cxf P w K mg base ["script", "seed", "total", "cell"] "_law_state" st_law_state f cdv A outer s H E).A (cxf P w K mg base ["script", "seed", "total", "cell"] "_law_state" st_law_state f cdv A outer s H E).env (cxf P w K mg base ["script", "seed", "total", "cell"] "_law_state" st_law_state f cdv A outer s H E).xe := passes_of rfl
  exact (gs_cons (gs_asg (i := 1) (m := false) hnd (by rfl) (by first | exact Or.inl rfl | exact Or.inr rfl) gn_int (by rfl) (.inl rfl))
 (gs_cons (gs_asg (i := 2) (m := false) hnd (by rfl) (by first | exact Or.inl rfl | exact Or.inr rfl) gn_int (by rfl) (.inl rfl))
 (gs_cons (gs_for (t := (.name 3)) po (by rfl) (gi_seq (gk_01 (gv 0) gn_int)) (gg_name (i := 3) hnd (by rfl) (by first | exact Or.inl rfl | exact Or.inr rfl) (by first | exact Or.inl rfl | exact Or.inr rfl))
 (gs_cons (gs_asg (i := 1) (m := false) hnd (by rfl) (by first | exact Or.inl rfl | exact Or.inr rfl) (ge_bin (ge_bin (gv 1) gn_int) (gc_abs (by rfl) (gl_one (gv 3)) (by rfl) (by rfl) (by rfl) B.abs)) (by rfl) (.inl rfl))
 (gs_cons (gs_asg (i := 2) (m := false) hnd (by rfl) (by first | exact Or.inl rfl | exact Or.inr rfl) (ge_bin (gc_int (by rfl) (gl_one (ge_bin (ge_bin (gv 2) gn_int) (gv 3))) (by rfl) (by rfl) (by rfl) B.int) gn_int) (by rfl) (.inl rfl))
 gs_nil)) (fun _ => rfl))
 (gs_cons (gs_ret (ge_lst (gl_more (gv 1) (gl_one (gv 2)))))
 gs_nil))))
/-! ### _law_take -/
abbrev st_law_take : Stmt := top 23
def T_law_take : SS :=
 (sSeq2 (sIfS (sB (sCmp .Gt (sIdx (sVar 0) (sCon (.int 0))) (sCon (.int 0))))
 (sSeq2 (sAsg 2 false (sBin .Mod (sArgs intOp (sCons (sIdx (sVar 0) (sCon (.int 0))) sNil)) (sVar 1)))
 (sSeq2 (sSetI (sVar 0) (sCon (.int 0)) (sBin .FloorDiv (sIdx (sVar 0) (sCon (.int 0))) (sVar 1)))
 (sSeq2 (sRet (sVar 2))
 sSkip)))
 sSkip)
 (sSeq2 (sSetI (sVar 0) (sCon (.int 1)) (sBin .Mod (sArgs intOp (sCons (sBin .Add (sBin .Mult (sIdx (sVar 0) (sCon (.int 1))) (sCon (.int 48271))) (sCon (.int 11))) sNil)) (sCon (.int 2147483647))))
 (sSeq2 (sRet (sBin .Mod (sArgs intOp (sCons (sBin .FloorDiv (sIdx (sVar 0) (sCon (.int 1))) (sCon (.int 7))) sNil)) (sVar 1)))
 sSkip)))
def F_law_take : List AV → Mem → Out AV := fnRun 2 3 T_law_take
theorem sc_law_take : FnScope ["state", "m", "value"] ["state", "m"] (defScope st_law_take) := C8.fnScope_by rfl
theorem ok_law_take {P : Program} {w : World} {K : PySem.W.Frag} {mg : Str → Option Value} {base : Heap} {f : Addr} {fd : FuncData} (F : Fun K "_law_take" "_law_take" st_law_take f fd) (B : Bn mg) : FnOk P w K mg base (L2.CX P w) 1 f fd ["state", "m"] (spOf ⟨K, mg⟩ F_law_take) := by
  refine fn_ok (N := ["state", "m", "value"]) F sc_law_take (fun cdv A outer s H E hr => ?_)
  have hnd : (["state", "m", "value"] : List Str).Nodup := sc_law_take.nd
  have hu : (A.deeper (envOfC "_law_take" (defScope st_law_take) s.heap.objs.size f cdv)).units + 65 < cLine := by have := hr.un; omega
  have tk : Takes (cxf P w K mg base ["state", "m", "value"] "_law_take" st_law_take f cdv A outer s H E) (fun cls d _ H' => E cls d H') := takes_of rfl rfl rfl rfl
  have po : PassesOwn (model P w) (cxf P w K mg base ["state", "m", "value"] "_law_take" st_law_take f cdv A outer s H E).A (cxf P w K mg base ["state", "m", "value"] "_law_take" st_law_take f cdv A outer s H E).env (cxf P w K mg base ["state", "m", "value"] "_law_take" st_law_take f cdv A outer s H E).xe := passes_of rfl
  exact (gs_cons (gs_if (gb_cmp hu (by rfl) (ge_idx (fun _ _ => rfl) (gv 0) gn_int) gn_int)
 (gs_cons (gs_asg (i := 2) (m := false) hnd (by rfl) (by first | exact Or.inl rfl | exact Or.inr rfl) (ge_bin (gc_int (by rfl) (gl_one (ge_idx (fun _ _ => rfl) (gv 0) gn_int)) (by rfl) (by rfl) (by rfl) B.int) (gv 1)) (by rfl) (.inl rfl))
 (gs_cons (gs_setI' (ge_bin (ge_idx (fun _ _ => rfl) (gv 0) gn_int) (gv 1)) (gv 0) gn_int (by rfl) (by rfl) (by rfl) (fun _ => rfl))
 (gs_cons (gs_ret (gv 2))
 gs_nil)))
 gs_nil)
 (gs_cons (gs_setI' (ge_bin (gc_int (by rfl) (gl_one (ge_bin (ge_bin (ge_idx (fun _ _ => rfl) (gv 0) gn_int) gn_int) gn_int)) (by rfl) (by rfl) (by rfl) B.int) gn_int) (gv 0) gn_int (by rfl) (by rfl) (by rfl) (fun _ => rfl))
 (gs_cons (gs_ret (ge_bin (gc_int (by rfl) (gl_one (ge_bin (ge_idx (fun _ _ => rfl) (gv 0) gn_int) gn_int)) (by rfl) (by rfl) (by rfl) B.int) (gv 1)))
 gs_nil)))
/-! ### _law_odd -/
abbrev st_law_odd : Stmt := top 24
def T_law_odd (self : List AV → Mem → Out AV) : SS :=
 (sSeq2 (sIfS (sB (sCmp .Eq (sVar 0) (sCon (.str "a word that nothing else is"))))
 (sSeq2 (sRet (sCon (.bl true)))
 sSkip)
 sSkip)
 (sSeq2 (sRet (sAnd (sIsi ["tuple", "list"] (sVar 0)) (sCmp .Gt (sArgs lenOp (sCons (sComp (sSeq (sVar 0)) (.name 1) (sB (sArgs self (sCons (sVar 1) sNil))) (sVar 1) (([("item", 1)] : List (Str × Nat)).map (·.2))) sNil)) (sCon (.int 0)))))
 sSkip))
def F_law_odd : Nat → List AV → Mem → Out AV
  | 0 => fun _ _ => .bad
  | n + 1 => fnRun 1 2 (T_law_odd (F_law_odd n))
theorem sc_law_odd : FnScope ["value", "item"] ["value"] (defScope st_law_odd) := C8.fnScope_by rfl
theorem ok_law_odd {P : Program} {w : World} {K : PySem.W.Frag} {mg : Str → Option Value} {base : Heap} {f : Addr} {fd : FuncData} (F : Fun K "_law_odd" "_law_odd" st_law_odd f fd) (B : Bn mg) (hm : mg "_law_odd" = some (.ref f)) (hkp : PySem.W.keepIn K (.ref f) = true) (hb : Binds K fd ["value"] []) : ∀ n : Nat, FnOk P w K mg base (L2.CX P w) (0 + n) f fd ["value"] (spOf ⟨K, mg⟩ (F_law_odd n))
  | 0 => ⟨fun vs H Q E ⟨W, Z, φ, M, avs, R, rs, h⟩ => h.elim, fun A outer s H args us vs Q E _ _ _ _ ⟨W, Z, φ, M, avs, R, rs, h⟩ => h.elim⟩
  | n + 1 => by
    have cs : CalD P w K mg base (0 + n) "_law_odd" (F_law_odd n) := ⟨f, fd, _, hm, hkp, hb, ok_law_odd F B hm hkp hb n⟩
    show FnOk P w K mg base (L2.CX P w) (0 + n + 1) f fd ["value"] (spOf ⟨K, mg⟩ (fnRun 1 2 (T_law_odd (F_law_odd n))))
    refine fn_ok (N := ["value", "item"]) F sc_law_odd (fun cdv A outer s H E hr => ?_)
    have hnd : (["value", "item"] : List Str).Nodup := sc_law_odd.nd
    have hu : (A.deeper (envOfC "_law_odd" (defScope st_law_odd) s.heap.objs.size f cdv)).units + 65 < cLine := by have := hr.un; omega
    have tk : Takes (cxf P w K mg base ["value", "item"] "_law_odd" st_law_odd f cdv A outer s H E) (fun cls d _ H' => E cls d H') := takes_of rfl rfl rfl rfl
    have po : PassesOwn (model P w) (cxf P w K mg base ["value", "item"] "_law_odd" st_law_odd f cdv A outer s H E).A (cxf P w K mg base ["value", "item"] "_law_odd" st_law_odd f cdv A outer s H E).env (cxf P w K mg base ["value", "item"] "_law_odd" st_law_odd f cdv A outer s H E).xe := passes_of rfl
    exact (gs_cons (gs_if (gb_cmp hu (by rfl) (gv 0) gn_str)
   (gs_cons (gs_ret gn_bl)
   gs_nil)
   gs_nil)
   (gs_cons (gs_ret (ge_and (ge_isiT (us := ["tuple", "list"]) (by rfl) B.isinstance (by decide) (by decide) (by exact (pa_cons (pe_bltn (v := .ty "tuple") (by rfl) B.tuple boot_tuple (by rfl)) (pa_cons (pe_bltn (v := .ty "list") (by rfl) B.list boot_list (by rfl)) pa_nil))) (gv 0) (by rfl) (by rfl) (by rfl)) (ge_one1 (ge_cmp hu (by rfl) (gc_len (by rfl) (gl_one (ge_comp (own := [("item", 1)]) (t := (.name 1)) (by rfl) hnd (gi_seq (gv 0)) (blkOk_by (by rfl)) (fun _ _ _ _ _ => (gg_name (i := 1) hnd (by rfl) (by first | exact Or.inl rfl | exact Or.inr rfl) (by first | exact Or.inl rfl | exact Or.inr rfl))) (fun _ _ _ _ _ => gts_one (gb_truth (ge_call (by exact cs.cald) hr takesW (by rfl) (gl_one (gv 1)) (by decide) (by rfl) (by rfl)) (fun _ => rfl))) (fun _ _ _ _ _ => (gv 1)) (fun _ => rfl) (by decide))) (by rfl) (by rfl) (by rfl) B.len) gn_int))))
   gs_nil))
/-! ### _law_honest -/
abbrev st_law_honest : Stmt := top 25
def T_law_honest : SS :=
 (sSeq2 (sRet (sIf (sB (sArgs (F_law_odd 8) (sCons (sVar 0) sNil))) (sCon (.str "odd")) (sVar 0)))
 sSkip)
def F_law_honest : List AV → Mem → Out AV := fnRun 1 1 T_law_honest
theorem sc_law_honest : FnScope ["value"] ["value"] (defScope st_law_honest) := C8.fnScope_by rfl
theorem ok_law_honest {P : Program} {w : World} {K : PySem.W.Frag} {mg : Str → Option Value} {base : Heap} {f : Addr} {fd : FuncData} (F : Fun K "_law_honest" "_law_honest" st_law_honest f fd) (c_law_odd : CalD P w K mg base 8 "_law_odd" (F_law_odd 8)) : FnOk P w K mg base (L2.CX P w) 9 f fd ["value"] (spOf ⟨K, mg⟩ F_law_honest) := by
  refine fn_ok (N := ["value"]) F sc_law_honest (fun cdv A outer s H E hr => ?_)
  have hnd : (["value"] : List Str).Nodup := sc_law_honest.nd
  have hu : (A.deeper (envOfC "_law_honest" (defScope st_law_honest) s.heap.objs.size f cdv)).units + 65 < cLine := by have := hr.un; omega
  have tk : Takes (cxf P w K mg base ["value"] "_law_honest" st_law_honest f cdv A outer s H E) (fun cls d _ H' => E cls d H') := takes_of rfl rfl rfl rfl
  have po : PassesOwn (model P w) (cxf P w K mg base ["value"] "_law_honest" st_law_honest f cdv A outer s H E).A (cxf P w K mg base ["value"] "_law_honest" st_law_honest f cdv A outer s H E).env (cxf P w K mg base ["value"] "_law_honest" st_law_honest f cdv A outer s H E).xe := passes_of rfl
  exact (gs_cons (gs_ret (ge_if (gb_truth (ge_call (by exact c_law_odd.cald) (hr.mono (by decide)) tk (by rfl) (gl_one (gv 0)) (by decide) (by rfl) (by rfl)) (fun _ => rfl)) gn_str (gv 0)))
 gs_nil)
/-! ### _law_is_whole -/
abbrev st_law_is_whole : Stmt := top 26
def T_law_is_whole : SS :=
 (sSeq2 (sRet (sAnd (sIsi ["int"] (sVar 0)) (sNot (sIsi ["bool"] (sVar 0)))))
 sSkip)
def F_law_is_whole : List AV → Mem → Out AV := fnRun 1 1 T_law_is_whole
theorem sc_law_is_whole : FnScope ["value"] ["value"] (defScope st_law_is_whole) := C8.fnScope_by rfl
theorem ok_law_is_whole {P : Program} {w : World} {K : PySem.W.Frag} {mg : Str → Option Value} {base : Heap} {f : Addr} {fd : FuncData} (F : Fun K "_law_is_whole" "_law_is_whole" st_law_is_whole f fd) (B : Bn mg) : FnOk P w K mg base (L2.CX P w) 1 f fd ["value"] (spOf ⟨K, mg⟩ F_law_is_whole) := by
  refine fn_ok (N := ["value"]) F sc_law_is_whole (fun cdv A outer s H E hr => ?_)
  have hnd : (["value"] : List Str).Nodup := sc_law_is_whole.nd
  have hu : (A.deeper (envOfC "_law_is_whole" (defScope st_law_is_whole) s.heap.objs.size f cdv)).units + 65 < cLine := by have := hr.un; omega
  have tk : Takes (cxf P w K mg base ["value"] "_law_is_whole" st_law_is_whole f cdv A outer s H E) (fun cls d _ H' => E cls d H') := takes_of rfl rfl rfl rfl
  have po : PassesOwn (model P w) (cxf P w K mg base ["value"] "_law_is_whole" st_law_is_whole f cdv A outer s H E).A (cxf P w K mg base ["value"] "_law_is_whole" st_law_is_whole f cdv A outer s H E).env (cxf P w K mg base ["value"] "_law_is_whole" st_law_is_whole f cdv A outer s H E).xe := passes_of rfl
  exact (gs_cons (gs_ret (ge_and (ge_isi1 (u := "int") (by rfl) B.isinstance (by decide) (pe_bltn (by rfl) B.int boot_int (by rfl)) (gv 0) (by rfl) (by rfl) (by rfl)) (ge_one1 (ge_not (ge_isi1 (u := "bool") (by rfl) B.isinstance (by decide) (pe_bltn (by rfl) B.bool boot_bool (by rfl)) (gv 0) (by rfl) (by rfl) (by rfl))))))
 gs_nil)
/-! ### _law_same -/
abbrev st_law_same : Stmt := top 27
def T_law_same (self : List AV → Mem → Out AV) : SS :=
 (sSeq2 (sIfS (sB (sIsi ["bool"] (sVar 1)))
 (sSeq2 (sRet (sAnd (sIsi ["bool"] (sVar 0)) (sCmp .Eq (sVar 0) (sVar 1))))
 sSkip)
 sSkip)
 (sSeq2 (sIfS (sB (sIsi ["tuple"] (sVar 1)))
 (sSeq2 (sRet (sAnd (sIsi ["tuple"] (sVar 0)) (sAnd (sCmp .Eq (sArgs lenOp (sCons (sVar 0) sNil)) (sArgs lenOp (sCons (sVar 1) sNil))) (sArgs allOp (sCons (sComp (sRng (sCons (sArgs lenOp (sCons (sVar 1) sNil)) sNil)) (.name 2) sYes (sArgs self (sCons (sIdx (sVar 0) (sVar 2)) (sCons (sIdx (sVar 1) (sVar 2)) sNil))) (([("k", 2)] : List (Str × Nat)).map (·.2))) sNil)))))
 sSkip)
 sSkip)
 (sSeq2 (sIfS (sB (sIsi ["str"] (sVar 1)))
 (sSeq2 (sRet (sAnd (sIsi ["str"] (sVar 0)) (sCmp .Eq (sVar 0) (sVar 1))))
 sSkip)
 sSkip)
 (sSeq2 (sIfS (sB (sCmp .Is (sVar 1) (sCon .non)))
 (sSeq2 (sRet (sCmp .Is (sVar 0) (sCon .non)))
 sSkip)
 sSkip)
 (sSeq2 (sRet (sAnd (sArgs F_law_is_whole (sCons (sVar 0) sNil)) (sCmp .Eq (sVar 0) (sVar 1))))
 sSkip)))))
def F_law_same : Nat → List AV → Mem → Out AV
  | 0 => fun _ _ => .bad
  | n + 1 => fnRun 2 3 (T_law_same (F_law_same n))
theorem sc_law_same : FnScope ["one", "two", "k"] ["one", "two"] (defScope st_law_same) := C8.fnScope_by rfl
theorem ok_law_same {P : Program} {w : World} {K : PySem.W.Frag} {mg : Str → Option Value} {base : Heap} {f : Addr} {fd : FuncData} (F : Fun K "_law_same" "_law_same" st_law_same f fd) (B : Bn mg) (c_law_is_whole : CalD P w K mg base 1 "_law_is_whole" F_law_is_whole) (hm : mg "_law_same" = some (.ref f)) (hkp : PySem.W.keepIn K (.ref f) = true) (hb : Binds K fd ["one", "two"] []) : ∀ n : Nat, FnOk P w K mg base (L2.CX P w) (1 + n) f fd ["one", "two"] (spOf ⟨K, mg⟩ (F_law_same n))
  | 0 => ⟨fun vs H Q E ⟨W, Z, φ, M, avs, R, rs, h⟩ => h.elim, fun A outer s H args us vs Q E _ _ _ _ ⟨W, Z, φ, M, avs, R, rs, h⟩ => h.elim⟩
  | n + 1 => by
    have cs : CalD P w K mg base (1 + n) "_law_same" (F_law_same n) := ⟨f, fd, _, hm, hkp, hb, ok_law_same F B c_law_is_whole hm hkp hb n⟩
    show FnOk P w K mg base (L2.CX P w) (1 + n + 1) f fd ["one", "two"] (spOf ⟨K, mg⟩ (fnRun 2 3 (T_law_same (F_law_same n))))
    refine fn_ok (N := ["one", "two", "k"]) F sc_law_same (fun cdv A outer s H E hr => ?_)
    have hnd : (["one", "two", "k"] : List Str).Nodup := sc_law_same.nd
    have hu : (A.deeper (envOfC "_law_same" (defScope st_law_same) s.heap.objs.size f cdv)).units + 65 < cLine := by have := hr.un; omega
    have tk : Takes (cxf P w K mg base ["one", "two", "k"] "_law_same" st_law_same f cdv A outer s H E) (fun cls d _ H' => E cls d H') := takes_of rfl rfl rfl rfl
    have po : PassesOwn (model P w) (cxf P w K mg base ["one", "two", "k"] "_law_same" st_law_same f cdv A outer s H E).A (cxf P w K mg base ["one", "two", "k"] "_law_same" st_law_same f cdv A outer s H E).env (cxf P w K mg base ["one", "two", "k"] "_law_same" st_law_same f cdv A outer s H E).xe := passes_of rfl
    exact (gs_cons (gs_if (gb_truth (ge_isi1 (u := "bool") (by rfl) B.isinstance (by decide) (pe_bltn (by rfl) B.bool boot_bool (by rfl)) (gv 1) (by rfl) (by rfl) (by rfl)) (fun _ => rfl))
   (gs_cons (gs_ret (ge_and (ge_isi1 (u := "bool") (by rfl) B.isinstance (by decide) (pe_bltn (by rfl) B.bool boot_bool (by rfl)) (gv 0) (by rfl) (by rfl) (by rfl)) (ge_one1 (ge_cmp hu (by rfl) (gv 0) (gv 1)))))
   gs_nil)
   gs_nil)
   (gs_cons (gs_if (gb_truth (ge_isi1 (u := "tuple") (by rfl) B.isinstance (by decide) (pe_bltn (by rfl) B.tuple boot_tuple (by rfl)) (gv 1) (by rfl) (by rfl) (by rfl)) (fun _ => rfl))
   (gs_cons (gs_ret (ge_and (ge_isi1 (u := "tuple") (by rfl) B.isinstance (by decide) (pe_bltn (by rfl) B.tuple boot_tuple (by rfl)) (gv 0) (by rfl) (by rfl) (by rfl)) (ge_and (ge_cmp hu (by rfl) (gc_len (by rfl) (gl_one (gv 0)) (by rfl) (by rfl) (by rfl) B.len) (gc_len (by rfl) (gl_one (gv 1)) (by rfl) (by rfl) (by rfl) B.len)) (ge_one1 (gc_all (by rfl) (gl_one (ge_comp (own := [("k", 2)]) (t := (.name 2)) (by rfl) hnd (gi_rng1 (by rfl) B.range (by rfl) (gl_one (gc_len (by rfl) (gl_one (gv 1)) (by rfl) (by rfl) (by rfl) B.len)) (sl_cons sl_nil)) (blkOk_by (by rfl)) (fun _ _ _ _ _ => (gg_name (i := 2) hnd (by rfl) (by first | exact Or.inl rfl | exact Or.inr rfl) (by first | exact Or.inl rfl | exact Or.inr rfl))) (fun _ _ _ _ _ => gts_nil) (fun _ _ _ _ _ => (ge_call (by exact cs.cald) hr takesW (by rfl) (gl_more (ge_idx (fun _ _ => rfl) (gv 0) (gv 2)) (gl_one (ge_idx (fun _ _ => rfl) (gv 1) (gv 2)))) (by decide) (by rfl) (by rfl))) (fun _ => rfl) (by decide))) (by rfl) (by rfl) (by rfl) B.all)))))
   gs_nil)
   gs_nil)
   (gs_cons (gs_if (gb_truth (ge_isi1 (u := "str") (by rfl) B.isinstance (by decide) (pe_bltn (by rfl) B.str boot_str (by rfl)) (gv 1) (by rfl) (by rfl) (by rfl)) (fun _ => rfl))
   (gs_cons (gs_ret (ge_and (ge_isi1 (u := "str") (by rfl) B.isinstance (by decide) (pe_bltn (by rfl) B.str boot_str (by rfl)) (gv 0) (by rfl) (by rfl) (by rfl)) (ge_one1 (ge_cmp hu (by rfl) (gv 0) (gv 1)))))
   gs_nil)
   gs_nil)
   (gs_cons (gs_if (gb_cmp hu (by rfl) (gv 1) gn_non)
   (gs_cons (gs_ret (ge_cmp hu (by rfl) (gv 0) gn_non))
   gs_nil)
   gs_nil)
   (gs_cons (gs_ret (ge_and (ge_call (by exact c_law_is_whole.cald) (hr.mono (by omega)) tk (by rfl) (gl_one (gv 0)) (by decide) (by rfl) (by rfl)) (ge_one1 (ge_cmp hu (by rfl) (gv 0) (gv 1)))))
   gs_nil)))))
/-! ### _law_common -/
abbrev st_law_common : Stmt := top 28
def T_law_common : SS :=
 (sSeq2 (sWhile (sB (sCmp .NotEq (sVar 1) (sCon (.int 0))))
 (sSeq2 (sPar2 0 1 false false (sVar 1) (sBin .Mod (sArgs intOp (sCons (sVar 0) sNil)) (sVar 1)))
 sSkip))
 (sSeq2 (sRet (sArgs absOp (sCons (sVar 0) sNil)))
 sSkip))
def F_law_common : List AV → Mem → Out AV := fnRun 2 2 T_law_common
theorem sc_law_common : FnScope ["a", "b"] ["a", "b"] (defScope st_law_common) := C8.fnScope_by rfl
theorem ok_law_common {P : Program} {w : World} {K : PySem.W.Frag} {mg : Str → Option Value} {base : Heap} {f : Addr} {fd : FuncData} (F : Fun K "_law_common" "_law_common" st_law_common f fd) (B : Bn mg) : FnOk P w K mg base (L2.CX P w) 1 f fd ["a", "b"] (spOf ⟨K, mg⟩ F_law_common) := by
  refine fn_ok (N := ["a", "b"]) F sc_law_common (fun cdv A outer s H E hr => ?_)
  have hnd : (["a", "b"] : List Str).Nodup := sc_law_common.nd
  have hu : (A.deeper (envOfC "_law_common" (defScope st_law_common) s.heap.objs.size f cdv)).units + 65 < cLine := by have := hr.un; omega
  have tk : Takes (cxf P w K mg base ["a", "b"] "_law_common" st_law_common f cdv A outer s H E) (fun cls d _ H' => E cls d H') := takes_of rfl rfl rfl rfl
  have po : PassesOwn (model P w) (cxf P w K mg base ["a", "b"] "_law_common" st_law_common f cdv A outer s H E).A (cxf P w K mg base ["a", "b"] "_law_common" st_law_common f cdv A outer s H E).env (cxf P w K mg base ["a", "b"] "_law_common" st_law_common f cdv A outer s H E).xe := passes_of rfl
  exact (gs_cons (gs_while po (gb_cmp hu (by rfl) (gv 1) gn_int)
 (gs_cons (gs_par2 (i := 0) (j := 1) (m := false) (n := false) (by rfl) hnd (by rfl) (by rfl) (by decide) (by rfl) (by rfl) (gv 1) (ge_bin (gc_int (by rfl) (gl_one (gv 0)) (by rfl) (by rfl) (by rfl) B.int) (gv 1)) (by rfl) (by rfl) (by rfl) (by rfl))
 gs_nil))
 (gs_cons (gs_ret (gc_abs (by rfl) (gl_one (gv 0)) (by rfl) (by rfl) (by rfl) B.abs))
 gs_nil))
/-! ### _law_steps -/
abbrev st_law_steps : Stmt := top 29
def T_law_steps : SS :=
 (sSeq2 (sAsg 1 true (sLst (sCons (sIdx (sVar 0) (sCon (.int 0))) sNil)))
 (sSeq2 (sFor (sSeq (sSlice (sVar 0) (some (sCon (.int 1))) none)) (.name 2)
 (sSeq2 (sExpr (sMeth mAppend (sVar 1) (sCons (sArgs F_law_common (sCons (sIdx (sVar 1) (sNeg (sCon (.int 1)))) (sCons (sVar 2) sNil))) sNil)))
 sSkip))
 (sSeq2 (sRet (sVar 1))
 sSkip)))
def F_law_steps : List AV → Mem → Out AV := fnRun 1 3 T_law_steps
theorem sc_law_steps : FnScope ["c", "found", "b"] ["c"] (defScope st_law_steps) := C8.fnScope_by rfl
theorem ok_law_steps {P : Program} {w : World} {K : PySem.W.Frag} {mg : Str → Option Value} {base : Heap} {f : Addr} {fd : FuncData} (F : Fun K "_law_steps" "_law_steps" st_law_steps f fd) (c_law_common : CalD P w K mg base 1 "_law_common" F_law_common) : FnOk P w K mg base (L2.CX P w) 2 f fd ["c"] (spOf ⟨K, mg⟩ F_law_steps) := by
  refine fn_ok (N := ["c", "found", "b"]) F sc_law_steps (fun cdv A outer s H E hr => ?_)
  have hnd : (["c", "found", "b"] : List Str).Nodup := sc_law_steps.nd
  have hu : (A.deeper (envOfC "_law_steps" (defScope st_law_steps) s.heap.objs.size f cdv)).units + 65 < cLine := by have := hr.un; omega
  have tk : Takes (cxf P w K mg base ["c", "found", "b"] "_law_steps" st_law_steps f cdv A outer s H E) (fun cls d _ H' => E cls d H') := takes_of rfl rfl rfl rfl
  have po : PassesOwn (model P w) (cxf P w K mg base ["c", "found", "b"] "_law_steps" st_law_steps f cdv A outer s H E).A (cxf P w K mg base ["c", "found", "b"] "_law_steps" st_law_steps f cdv A outer s H E).env (cxf P w K mg base ["c", "found", "b"] "_law_steps" st_law_steps f cdv A outer s H E).xe := passes_of rfl
  exact (gs_cons (gs_asg (i := 1) (m := true) hnd (by rfl) (by first | exact Or.inl rfl | exact Or.inr rfl) (ge_lst (gl_one (ge_idx (fun _ _ => rfl) (gv 0) gn_int))) (by rfl) (.inl rfl))
 (gs_cons (gs_for (t := (.name 2)) po (by rfl) (gi_seq (gk_10 (gv 0) gn_int)) (gg_name (i := 2) hnd (by rfl) (by first | exact Or.inl rfl | exact Or.inr rfl) (by first | exact Or.inl rfl | exact Or.inr rfl))
 (gs_cons (gs_expr (gm_append (gv 1) (gl_one (ge_call (by exact c_law_common.cald) (hr.mono (by decide)) tk (by rfl) (gl_more (ge_idx (fun _ _ => rfl) (gv 1) (ge_neg gn_int)) (gl_one (gv 2))) (by decide) (by rfl) (by rfl))) (by rfl) (by rfl) (by rfl) (by rfl) (by rfl)) (by rfl))
 gs_nil) (fun _ => rfl))
 (gs_cons (gs_ret (gv 1))
 gs_nil)))
/-! ### _law_conductor -/
abbrev st_law_conductor : Stmt := top 30
def T_law_conductor : SS :=
 (sSeq2 (sPar2 2 3 false false (sArgs F_law_steps (sCons (sVar 0) sNil)) (sBin .Sub (sCon (.int 1)) (sIdx (sVar 0) (sCon (.int 0)))))
 (sSeq2 (sFor (sRng (sCons (sCon (.int 1)) (sCons (sArgs lenOp (sCons (sVar 0) sNil)) sNil))) (.name 1)
 (sSeq2 (sAsg 3 false (sBin .Add (sVar 3) (sBin .Mult (sBin .Sub (sIdx (sVar 2) (sBin .Sub (sVar 1) (sCon (.int 1)))) (sIdx (sVar 2) (sVar 1))) (sIdx (sVar 0) (sVar 1)))))
 sSkip))
 (sSeq2 (sRet (sVar 3))
 sSkip)))
def F_law_conductor : List AV → Mem → Out AV := fnRun 1 4 T_law_conductor
theorem sc_law_conductor : FnScope ["c", "i", "e", "total"] ["c"] (defScope st_law_conductor) := C8.fnScope_by rfl
theorem ok_law_conductor {P : Program} {w : World} {K : PySem.W.Frag} {mg : Str → Option Value} {base : Heap} {f : Addr} {fd : FuncData} (F : Fun K "_law_conductor" "_law_conductor" st_law_conductor f fd) (B : Bn mg) (c_law_steps : CalD P w K mg base 2 "_law_steps" F_law_steps) : FnOk P w K mg base (L2.CX P w) 3 f fd ["c"] (spOf ⟨K, mg⟩ F_law_conductor) := by
  refine fn_ok (N := ["c", "i", "e", "total"]) F sc_law_conductor (fun cdv A outer s H E hr => ?_)
  have hnd : (["c", "i", "e", "total"] : List Str).Nodup := sc_law_conductor.nd
  have hu : (A.deeper (envOfC "_law_conductor" (defScope st_law_conductor) s.heap.objs.size f cdv)).units + 65 < cLine := by have := hr.un; omega
  have tk : Takes (cxf P w K mg base ["c", "i", "e", "total"] "_law_conductor" st_law_conductor f cdv A outer s H E) (fun cls d _ H' => E cls d H') := takes_of rfl rfl rfl rfl
  have po : PassesOwn (model P w) (cxf P w K mg base ["c", "i", "e", "total"] "_law_conductor" st_law_conductor f cdv A outer s H E).A (cxf P w K mg base ["c", "i", "e", "total"] "_law_conductor" st_law_conductor f cdv A outer s H E).env (cxf P w K mg base ["c", "i", "e", "total"] "_law_conductor" st_law_conductor f cdv A outer s H E).xe := passes_of rfl
  exact (gs_cons (gs_par2 (i := 2) (j := 3) (m := false) (n := false) (by rfl) hnd (by rfl) (by rfl) (by decide) (by rfl) (by rfl) (ge_call (by exact c_law_steps.cald) (hr.mono (by decide)) tk (by rfl) (gl_one (gv 0)) (by decide) (by rfl) (by rfl)) (ge_bin gn_int (ge_idx (fun _ _ => rfl) (gv 0) gn_int)) (by rfl) (by rfl) (by rfl) (by rfl))
 (gs_cons (gs_for (t := (.name 1)) po (by rfl) (gi_rng2 (by rfl) B.range (by rfl) (by rfl) (gl_more gn_int (gl_one (gc_len (by rfl) (gl_one (gv 0)) (by rfl) (by rfl) (by rfl) B.len))) (sl_cons (sl_cons sl_nil))) (gg_name (i := 1) hnd (by rfl) (by first | exact Or.inl rfl | exact Or.inr rfl) (by first | exact Or.inl rfl | exact Or.inr rfl))
 (gs_cons (gs_asg (i := 3) (m := false) hnd (by rfl) (by first | exact Or.inl rfl | exact Or.inr rfl) (ge_bin (gv 3) (ge_bin (ge_bin (ge_idx (fun _ _ => rfl) (gv 2) (ge_bin (gv 1) gn_int)) (ge_idx (fun _ _ => rfl) (gv 2) (gv 1))) (ge_idx (fun _ _ => rfl) (gv 0) (gv 1)))) (by rfl) (.inl rfl))
 gs_nil) (fun _ => rfl))
 (gs_cons (gs_ret (gv 3))
 gs_nil)))
/-! ### _law_is_class -/
abbrev st_law_is_class : Stmt := top 31
def T_law_is_class : SS :=
 (sSeq2 (sIfS (sOrB (sNotB (sB (sIsi ["tuple"] (sVar 0)))) (sOrB (sB (sCmp .Eq (sArgs lenOp (sCons (sVar 0) sNil)) (sCon (.int 0)))) (sNotB (sB (sArgs allOp (sCons (sComp (sSeq (sVar 0)) (.name 2) sYes (sArgs F_law_is_whole (sCons (sVar 2) sNil)) (([("b", 2)] : List (Str × Nat)).map (·.2))) sNil))))))
 (sSeq2 (sRet (sCon (.bl false)))
 sSkip)
 sSkip)
 (sSeq2 (sIfS (sB (sCmp .Eq (sVar 0) (sTup (sCons (sCon (.int 1)) sNil))))
 (sSeq2 (sRet (sCon (.bl true)))
 sSkip)
 sSkip)
 (sSeq2 (sIfS (sOrB (sNotB (sB (sChain .LtE .LtE (sCon (.int 2)) (sIdx (sVar 0) (sCon (.int 0))) (sCon (.int 60))))) (sOrB (sB (sCmp .Gt (sIdx (sVar 0) (sNeg (sCon (.int 1)))) (sCon (.int 300)))) (sB (sCmp .Gt (sArgs lenOp (sCons (sComp (sRng (sCons (sCon (.int 1)) (sCons (sArgs lenOp (sCons (sVar 0) sNil)) sNil))) (.name 3) (sB (sCmp .LtE (sIdx (sVar 0) (sVar 3)) (sIdx (sVar 0) (sBin .Sub (sVar 3) (sCon (.int 1)))))) (sVar 3) (([("i", 3)] : List (Str × Nat)).map (·.2))) sNil)) (sCon (.int 0))))))
 (sSeq2 (sRet (sCon (.bl false)))
 sSkip)
 sSkip)
 (sSeq2 (sAsg 1 false (sArgs F_law_steps (sCons (sVar 0) sNil)))
 (sSeq2 (sIfS (sOrB (sB (sCmp .NotEq (sIdx (sVar 1) (sNeg (sCon (.int 1)))) (sCon (.int 1)))) (sB (sCmp .Gt (sArgs lenOp (sCons (sComp (sRng (sCons (sCon (.int 1)) (sCons (sArgs lenOp (sCons (sVar 1) sNil)) sNil))) (.name 3) (sB (sCmp .Eq (sIdx (sVar 1) (sVar 3)) (sIdx (sVar 1) (sBin .Sub (sVar 3) (sCon (.int 1)))))) (sVar 3) (([("i", 3)] : List (Str × Nat)).map (·.2))) sNil)) (sCon (.int 0)))))
 (sSeq2 (sRet (sCon (.bl false)))
 sSkip)
 sSkip)
 (sSeq2 (sRet (sCmp .LtE (sArgs F_law_conductor (sCons (sVar 0) sNil)) (sCon (.int 3000))))
 sSkip))))))
def F_law_is_class : List AV → Mem → Out AV := fnRun 1 4 T_law_is_class
theorem sc_law_is_class : FnScope ["value", "e", "b", "i"] ["value"] (defScope st_law_is_class) := C8.fnScope_by rfl
theorem ok_law_is_class {P : Program} {w : World} {K : PySem.W.Frag} {mg : Str → Option Value} {base : Heap} {f : Addr} {fd : FuncData} (F : Fun K "_law_is_class" "_law_is_class" st_law_is_class f fd) (B : Bn mg) (c_law_conductor : CalD P w K mg base 3 "_law_conductor" F_law_conductor) (c_law_is_whole : CalD P w K mg base 1 "_law_is_whole" F_law_is_whole) (c_law_steps : CalD P w K mg base 2 "_law_steps" F_law_steps) : FnOk P w K mg base (L2.CX P w) 4 f fd ["value"] (spOf ⟨K, mg⟩ F_law_is_class) := by
  refine fn_ok (N := ["value", "e", "b", "i"]) F sc_law_is_class (fun cdv A outer s H E hr => ?_)
  have hnd : (["value", "e", "b", "i"] : List Str).Nodup := sc_law_is_class.nd
  have hu : (A.deeper (envOfC "_law_is_class" (defScope st_law_is_class) s.heap.objs.size f cdv)).units + 65 < cLine := by have := hr.un; omega
  have tk : Takes (cxf P w K mg base ["value", "e", "b", "i"] "_law_is_class" st_law_is_class f cdv A outer s H E) (fun cls d _ H' => E cls d H') := takes_of rfl rfl rfl rfl
  have po : PassesOwn (model P w) (cxf P w K mg base ["value", "e", "b", "i"] "_law_is_class" st_law_is_class f cdv A outer s H E).A (cxf P w K mg base ["value", "e", "b", "i"] "_law_is_class" st_law_is_class f cdv A outer s H E).env (cxf P w K mg base ["value", "e", "b", "i"] "_law_is_class" st_law_is_class f cdv A outer s H E).xe := passes_of rfl
  exact (gs_cons (gs_if (gb_or (gb_not (gb_truth (ge_isi1 (u := "tuple") (by rfl) B.isinstance (by decide) (pe_bltn (by rfl) B.tuple boot_tuple (by rfl)) (gv 0) (by rfl) (by rfl) (by rfl)) (fun _ => rfl))) (gb_or (gb_cmp hu (by rfl) (gc_len (by rfl) (gl_one (gv 0)) (by rfl) (by rfl) (by rfl) B.len) gn_int) (gb_or1 (gb_not (gb_truth (gc_all (by rfl) (gl_one (ge_comp (own := [("b", 2)]) (t := (.name 2)) (by rfl) hnd (gi_seq (gv 0)) (blkOk_by (by rfl)) (fun _ _ _ _ _ => (gg_name (i := 2) hnd (by rfl) (by first | exact Or.inl rfl | exact Or.inr rfl) (by first | exact Or.inl rfl | exact Or.inr rfl))) (fun _ _ _ _ _ => gts_nil) (fun _ _ _ _ _ => (ge_call (by exact c_law_is_whole.cald) (hr.mono (by decide)) takesW (by rfl) (gl_one (gv 2)) (by decide) (by rfl) (by rfl))) (fun _ => rfl) (by decide))) (by rfl) (by rfl) (by rfl) B.all) (fun _ => rfl)))))).pt
 (gs_cons (gs_ret gn_bl)
 gs_nil)
 gs_nil)
 (gs_cons (gs_if (gb_cmp hu (by rfl) (gv 0) (ge_tup (gl_one gn_int)))
 (gs_cons (gs_ret gn_bl)
 gs_nil)
 gs_nil)
 (gs_cons (gs_if (gb_or (gb_not (gb_chain hu (by rfl) gn_int (ge_idx (fun _ _ => rfl) (gv 0) gn_int) gn_int)) (gb_or (gb_cmp hu (by rfl) (ge_idx (fun _ _ => rfl) (gv 0) (ge_neg gn_int)) gn_int) (gb_or1 (gb_cmp hu (by rfl) (gc_len (by rfl) (gl_one (ge_comp (own := [("i", 3)]) (t := (.name 3)) (by rfl) hnd (gi_rng2 (by rfl) B.range (by rfl) (by rfl) (gl_more gn_int (gl_one (gc_len (by rfl) (gl_one (gv 0)) (by rfl) (by rfl) (by rfl) B.len))) (sl_cons (sl_cons sl_nil))) (blkOk_by (by rfl)) (fun _ _ _ _ _ => (gg_name (i := 3) hnd (by rfl) (by first | exact Or.inl rfl | exact Or.inr rfl) (by first | exact Or.inl rfl | exact Or.inr rfl))) (fun _ _ _ _ _ => gts_one (gb_cmp hu (by rfl) (ge_idx (fun _ _ => rfl) (gv 0) (gv 3)) (ge_idx (fun _ _ => rfl) (gv 0) (ge_bin (gv 3) gn_int)))) (fun _ _ _ _ _ => (gv 3)) (fun _ => rfl) (by decide))) (by rfl) (by rfl) (by rfl) B.len) gn_int)))).pt
 (gs_cons (gs_ret gn_bl)
 gs_nil)
 gs_nil)
 (gs_cons (gs_asg (i := 1) (m := false) hnd (by rfl) (by first | exact Or.inl rfl | exact Or.inr rfl) (ge_call (by exact c_law_steps.cald) (hr.mono (by decide)) tk (by rfl) (gl_one (gv 0)) (by decide) (by rfl) (by rfl)) (by rfl) (.inl rfl))
 (gs_cons (gs_if (gb_or (gb_cmp hu (by rfl) (ge_idx (fun _ _ => rfl) (gv 1) (ge_neg gn_int)) gn_int) (gb_or1 (gb_cmp hu (by rfl) (gc_len (by rfl) (gl_one (ge_comp (own := [("i", 3)]) (t := (.name 3)) (by rfl) hnd (gi_rng2 (by rfl) B.range (by rfl) (by rfl) (gl_more gn_int (gl_one (gc_len (by rfl) (gl_one (gv 1)) (by rfl) (by rfl) (by rfl) B.len))) (sl_cons (sl_cons sl_nil))) (blkOk_by (by rfl)) (fun _ _ _ _ _ => (gg_name (i := 3) hnd (by rfl) (by first | exact Or.inl rfl | exact Or.inr rfl) (by first | exact Or.inl rfl | exact Or.inr rfl))) (fun _ _ _ _ _ => gts_one (gb_cmp hu (by rfl) (ge_idx (fun _ _ => rfl) (gv 1) (gv 3)) (ge_idx (fun _ _ => rfl) (gv 1) (ge_bin (gv 3) gn_int)))) (fun _ _ _ _ _ => (gv 3)) (fun _ => rfl) (by decide))) (by rfl) (by rfl) (by rfl) B.len) gn_int))).pt
 (gs_cons (gs_ret gn_bl)
 gs_nil)
 gs_nil)
 (gs_cons (gs_ret (ge_cmp hu (by rfl) (ge_call (by exact c_law_conductor.cald) (hr.mono (by decide)) tk (by rfl) (gl_one (gv 0)) (by decide) (by rfl) (by rfl)) gn_int))
 gs_nil))))))
/-! ### _law_from_pairs -/
abbrev st_law_from_pairs : Stmt := top 32
def T_law_from_pairs : SS :=
 (sSeq2 (sAsg 1 false (sCon (.int 1)))
 (sSeq2 (sFor (sSeq (sVar 0)) (.tup (.cons (.name 2) (.cons (.name 3) .nil)))
 (sSeq2 (sAsg 1 false (sBin .Mult (sVar 1) (sVar 2)))
 sSkip))
 (sSeq2 (sPar2 4 5 true false (sLst (sCons (sVar 1) sNil)) (sCon (.int 0)))
 (sSeq2 (sFor (sSeq (sVar 0)) (.tup (.cons (.name 2) (.cons (.name 3) .nil)))
 (sSeq2 (sAsg 1 false (sBin .FloorDiv (sVar 1) (sVar 2)))
 (sSeq2 (sAsg 5 false (sBin .Add (sVar 5) (sBin .Mult (sVar 3) (sVar 1))))
 (sSeq2 (sExpr (sMeth mAppend (sVar 4) (sCons (sVar 5) sNil)))
 sSkip))))
 (sSeq2 (sRet (sArgs tupleOp (sCons (sVar 4) sNil)))
 sSkip)))))
def F_law_from_pairs : List AV → Mem → Out AV := fnRun 1 6 T_law_from_pairs
theorem sc_law_from_pairs : FnScope ["pairs", "e", "p", "q", "found", "b"] ["pairs"] (defScope st_law_from_pairs) := C8.fnScope_by rfl
theorem ok_law_from_pairs {P : Program} {w : World} {K : PySem.W.Frag} {mg : Str → Option Value} {base : Heap} {f : Addr} {fd : FuncData} (F : Fun K "_law_from_pairs" "_law_from_pairs" st_law_from_pairs f fd) (B : Bn mg) : FnOk P w K mg base (L2.CX P w) 1 f fd ["pairs"] (spOf ⟨K, mg⟩ F_law_from_pairs) := by
  refine fn_ok (N := ["pairs", "e", "p", "q", "found", "b"]) F sc_law_from_pairs (fun cdv A outer s H E hr => ?_)
  have hnd : (["pairs", "e", "p", "q", "found", "b"] : List Str).Nodup := sc_law_from_pairs.nd
  have hu : (A.deeper (envOfC "_law_from_pairs" (defScope st_law_from_pairs) s.heap.objs.size f cdv)).units + 65 < cLine := by have := hr.un; omega
  have tk : Takes (cxf P w K mg base ["pairs", "e", "p", "q", "found", "b"] "_law_from_pairs" st_law_from_pairs f cdv A outer s H E) (fun cls d _ H' => E cls d H') := takes_of rfl rfl rfl rfl
  have po : PassesOwn (model P w) (cxf P w K mg base ["pairs", "e", "p", "q", "found", "b"] "_law_from_pairs" st_law_from_pairs f cdv A outer s H E).A (cxf P w K mg base ["pairs", "e", "p", "q", "found", "b"] "_law_from_pairs" st_law_from_pairs f cdv A outer s H E).env (cxf P w K mg base ["pairs", "e", "p", "q", "found", "b"] "_law_from_pairs" st_law_from_pairs f cdv A outer s H E).xe := passes_of rfl
  exact (gs_cons (gs_asg (i := 1) (m := false) hnd (by rfl) (by first | exact Or.inl rfl | exact Or.inr rfl) gn_int (by rfl) (.inl rfl))
 (gs_cons (gs_for (t := (.tup (.cons (.name 2) (.cons (.name 3) .nil)))) po (by rfl) (gi_seq (gv 0)) (gg_tup (n := 2) (by rfl) (gg_cons (gg_name (i := 2) hnd (by rfl) (by first | exact Or.inl rfl | exact Or.inr rfl) (by first | exact Or.inl rfl | exact Or.inr rfl)) (gg_cons (gg_name (i := 3) hnd (by rfl) (by first | exact Or.inl rfl | exact Or.inr rfl) (by first | exact Or.inl rfl | exact Or.inr rfl)) gg_nil (by rfl)) (by rfl)) (by rfl) (by rfl) (tg_lenS (tg_lenS tg_len0)))
 (gs_cons (gs_asg (i := 1) (m := false) hnd (by rfl) (by first | exact Or.inl rfl | exact Or.inr rfl) (ge_bin (gv 1) (gv 2)) (by rfl) (.inl rfl))
 gs_nil) (fun _ => rfl))
 (gs_cons (gs_par2 (i := 4) (j := 5) (m := true) (n := false) (by rfl) hnd (by rfl) (by rfl) (by decide) (by rfl) (by rfl) (ge_lst (gl_one (gv 1))) gn_int (by rfl) (by rfl) (by rfl) (by rfl))
 (gs_cons (gs_for (t := (.tup (.cons (.name 2) (.cons (.name 3) .nil)))) po (by rfl) (gi_seq (gv 0)) (gg_tup (n := 2) (by rfl) (gg_cons (gg_name (i := 2) hnd (by rfl) (by first | exact Or.inl rfl | exact Or.inr rfl) (by first | exact Or.inl rfl | exact Or.inr rfl)) (gg_cons (gg_name (i := 3) hnd (by rfl) (by first | exact Or.inl rfl | exact Or.inr rfl) (by first | exact Or.inl rfl | exact Or.inr rfl)) gg_nil (by rfl)) (by rfl)) (by rfl) (by rfl) (tg_lenS (tg_lenS tg_len0)))
 (gs_cons (gs_asg (i := 1) (m := false) hnd (by rfl) (by first | exact Or.inl rfl | exact Or.inr rfl) (ge_bin (gv 1) (gv 2)) (by rfl) (.inl rfl))
 (gs_cons (gs_asg (i := 5) (m := false) hnd (by rfl) (by first | exact Or.inl rfl | exact Or.inr rfl) (ge_bin (gv 5) (ge_bin (gv 3) (gv 1))) (by rfl) (.inl rfl))
 (gs_cons (gs_expr (gm_append (gv 4) (gl_one (gv 5)) (by rfl) (by rfl) (by rfl) (by rfl) (by rfl)) (by rfl))
 gs_nil))) (fun _ => rfl))
 (gs_cons (gs_ret (gc_tuple (by rfl) (gl_one (gv 4)) (by rfl) (by rfl) (by rfl) B.tuple))
 gs_nil)))))
/-! ### _law_drawn_pairs -/
abbrev st_law_drawn_pairs : Stmt := top 33
def T_law_drawn_pairs : SS :=
 (sSeq2 (sPar2 3 4 true false (sLst sNil) (sCon (.int 1)))
 (sSeq2 (sFor (sRng (sCons (sArgs F_law_take (sCons (sVar 0) (sCons (sCon (.int 4)) sNil))) sNil)) (.name 2)
 (sSeq2 (sAsg 5 false (sIdx (sLst (sCons (sCon (.int 2)) (sCons (sCon (.int 2)) (sCons (sCon (.int 3)) (sCons (sCon (.int 2)) (sCons (sCon (.int 3)) (sCons (sCon (.int 4)) (sCons (sCon (.int 5)) (sCons (sCon (.int 6)) (sCons (sCon (.int 7)) sNil)))))))))) (sArgs F_law_take (sCons (sVar 0) (sCons (sCon (.int 9)) sNil)))))
 (sSeq2 (sIfS (sB (sCmp .LtE (sBin .Mult (sVar 4) (sVar 5)) (sVar 1)))
 (sSeq2 (sAsg 6 false (sBin .Add (sBin .Add (sCon (.int 1)) (sArgs F_law_take (sCons (sVar 0) (sCons (sIdx (sLst (sCons (sCon (.int 4)) (sCons (sCon (.int 4)) (sCons (sCon (.int 9)) sNil)))) (sArgs F_law_take (sCons (sVar 0) (sCons (sCon (.int 3)) sNil)))) sNil)))) (sIf (sB (sCmp .Eq (sArgs lenOp (sCons (sVar 3) sNil)) (sCon (.int 0)))) (sVar 5) (sCon (.int 0)))))
 (sSeq2 (sWhile (sB (sCmp .Gt (sArgs F_law_common (sCons (sVar 5) (sCons (sVar 6) sNil))) (sCon (.int 1))))
 (sSeq2 (sAsg 6 false (sBin .Add (sVar 6) (sCon (.int 1))))
 sSkip))
 (sSeq2 (sExpr (sMeth mAppend (sVar 3) (sCons (sTup (sCons (sVar 5) (sCons (sVar 6) sNil))) sNil)))
 (sSeq2 (sAsg 4 false (sBin .Mult (sVar 4) (sVar 5)))
 sSkip))))
 sSkip)
 sSkip)))
 (sSeq2 (sRet (sArgs tupleOp (sCons (sVar 3) sNil)))
 sSkip)))
def F_law_drawn_pairs : List AV → Mem → Out AV := fnRun 2 7 T_law_drawn_pairs
theorem sc_law_drawn_pairs : FnScope ["state", "most", "turn", "pairs", "product", "p", "q"] ["state", "most"] (defScope st_law_drawn_pairs) := C8.fnScope_by rfl
theorem ok_law_drawn_pairs {P : Program} {w : World} {K : PySem.W.Frag} {mg : Str → Option Value} {base : Heap} {f : Addr} {fd : FuncData} (F : Fun K "_law_drawn_pairs" "_law_drawn_pairs" st_law_drawn_pairs f fd) (B : Bn mg) (c_law_common : CalD P w K mg base 1 "_law_common" F_law_common) (c_law_take : CalD P w K mg base 1 "_law_take" F_law_take) : FnOk P w K mg base (L2.CX P w) 2 f fd ["state", "most"] (spOf ⟨K, mg⟩ F_law_drawn_pairs) := by
  refine fn_ok (N := ["state", "most", "turn", "pairs", "product", "p", "q"]) F sc_law_drawn_pairs (fun cdv A outer s H E hr => ?_)
  have hnd : (["state", "most", "turn", "pairs", "product", "p", "q"] : List Str).Nodup := sc_law_drawn_pairs.nd
  have hu : (A.deeper (envOfC "_law_drawn_pairs" (defScope st_law_drawn_pairs) s.heap.objs.size f cdv)).units + 65 < cLine := by have := hr.un; omega
  have tk : Takes (cxf P w K mg base ["state", "most", "turn", "pairs", "product", "p", "q"] "_law_drawn_pairs" st_law_drawn_pairs f cdv A outer s H E) (fun cls d _ H' => E cls d H') := takes_of rfl rfl rfl rfl
  have po : PassesOwn (model P w) (cxf P w K mg base ["state", "most", "turn", "pairs", "product", "p", "q"] "_law_drawn_pairs" st_law_drawn_pairs f cdv A outer s H E).A (cxf P w K mg base ["state", "most", "turn", "pairs", "product", "p", "q"] "_law_drawn_pairs" st_law_drawn_pairs f cdv A outer s H E).env (cxf P w K mg base ["state", "most", "turn", "pairs", "product", "p", "q"] "_law_drawn_pairs" st_law_drawn_pairs f cdv A outer s H E).xe := passes_of rfl
  exact (gs_cons (gs_par2 (i := 3) (j := 4) (m := true) (n := false) (by rfl) hnd (by rfl) (by rfl) (by decide) (by rfl) (by rfl) (ge_lst gl_nil) gn_int (by rfl) (by rfl) (by rfl) (by rfl))
 (gs_cons (gs_for (t := (.name 2)) po (by rfl) (gi_rng1 (by rfl) B.range (by rfl) (gl_one (ge_call (by exact c_law_take.cald) (hr.mono (by decide)) tk (by rfl) (gl_more (gv 0) (gl_one gn_int)) (by decide) (by rfl) (by rfl))) (sl_cons sl_nil)) (gg_name (i := 2) hnd (by rfl) (by first | exact Or.inl rfl | exact Or.inr rfl) (by first | exact Or.inl rfl | exact Or.inr rfl))
 (gs_cons (gs_asg (i := 5) (m := false) hnd (by rfl) (by first | exact Or.inl rfl | exact Or.inr rfl) (ge_idx (fun _ _ => rfl) (ge_lst (gl_more gn_int (gl_more gn_int (gl_more gn_int (gl_more gn_int (gl_more gn_int (gl_more gn_int (gl_more gn_int (gl_more gn_int (gl_one gn_int)))))))))) (ge_call (by exact c_law_take.cald) (hr.mono (by decide)) tk (by rfl) (gl_more (gv 0) (gl_one gn_int)) (by decide) (by rfl) (by rfl))) (by rfl) (.inl rfl))
 (gs_cons (gs_if (gb_cmp hu (by rfl) (ge_bin (gv 4) (gv 5)) (gv 1))
 (gs_cons (gs_asg (i := 6) (m := false) hnd (by rfl) (by first | exact Or.inl rfl | exact Or.inr rfl) (ge_bin (ge_bin gn_int (ge_call (by exact c_law_take.cald) (hr.mono (by decide)) tk (by rfl) (gl_more (gv 0) (gl_one (ge_idx (fun _ _ => rfl) (ge_lst (gl_more gn_int (gl_more gn_int (gl_one gn_int)))) (ge_call (by exact c_law_take.cald) (hr.mono (by decide)) tk (by rfl) (gl_more (gv 0) (gl_one gn_int)) (by decide) (by rfl) (by rfl))))) (by decide) (by rfl) (by rfl))) (ge_if (gb_cmp hu (by rfl) (gc_len (by rfl) (gl_one (gv 3)) (by rfl) (by rfl) (by rfl) B.len) gn_int) (gv 5) gn_int)) (by rfl) (.inl rfl))
 (gs_cons (gs_while po (gb_cmp hu (by rfl) (ge_call (by exact c_law_common.cald) (hr.mono (by decide)) tk (by rfl) (gl_more (gv 5) (gl_one (gv 6))) (by decide) (by rfl) (by rfl)) gn_int)
 (gs_cons (gs_asg (i := 6) (m := false) hnd (by rfl) (by first | exact Or.inl rfl | exact Or.inr rfl) (ge_bin (gv 6) gn_int) (by rfl) (.inl rfl))
 gs_nil))
 (gs_cons (gs_expr (gm_append (gv 3) (gl_one (ge_tup (gl_more (gv 5) (gl_one (gv 6))))) (by rfl) (by rfl) (by rfl) (by rfl) (by rfl)) (by rfl))
 (gs_cons (gs_asg (i := 4) (m := false) hnd (by rfl) (by first | exact Or.inl rfl | exact Or.inr rfl) (ge_bin (gv 4) (gv 5)) (by rfl) (.inl rfl))
 gs_nil))))
 gs_nil)
 gs_nil)) (fun _ => rfl))
 (gs_cons (gs_ret (gc_tuple (by rfl) (gl_one (gv 3)) (by rfl) (by rfl) (by rfl) B.tuple))
 gs_nil)))
/-! ### _law_drawn_class -/
abbrev st_law_drawn_class : Stmt := top 34
def T_law_drawn_class : SS :=
 (sSeq2 (sAsg 2 false (sArgs F_law_drawn_pairs (sCons (sVar 0) (sCons (sVar 1) sNil))))
 (sSeq2 (sWhile (sNotB (sB (sArgs F_law_is_class (sCons (sArgs F_law_from_pairs (sCons (sVar 2) sNil)) sNil))))
 (sSeq2 (sAsg 2 false (sSlice (sVar 2) none (some (sNeg (sCon (.int 1))))))
 sSkip))
 (sSeq2 (sRet (sArgs F_law_from_pairs (sCons (sVar 2) sNil)))
 sSkip)))
def F_law_drawn_class : List AV → Mem → Out AV := fnRun 2 3 T_law_drawn_class
theorem sc_law_drawn_class : FnScope ["state", "most", "pairs"] ["state", "most"] (defScope st_law_drawn_class) := C8.fnScope_by rfl
theorem ok_law_drawn_class {P : Program} {w : World} {K : PySem.W.Frag} {mg : Str → Option Value} {base : Heap} {f : Addr} {fd : FuncData} (F : Fun K "_law_drawn_class" "_law_drawn_class" st_law_drawn_class f fd) (c_law_drawn_pairs : CalD P w K mg base 2 "_law_drawn_pairs" F_law_drawn_pairs) (c_law_from_pairs : CalD P w K mg base 1 "_law_from_pairs" F_law_from_pairs) (c_law_is_class : CalD P w K mg base 4 "_law_is_class" F_law_is_class) : FnOk P w K mg base (L2.CX P w) 5 f fd ["state", "most"] (spOf ⟨K, mg⟩ F_law_drawn_class) := by
  refine fn_ok (N := ["state", "most", "pairs"]) F sc_law_drawn_class (fun cdv A outer s H E hr => ?_)
  have hnd : (["state", "most", "pairs"] : List Str).Nodup := sc_law_drawn_class.nd
  have hu : (A.deeper (envOfC "_law_drawn_class" (defScope st_law_drawn_class) s.heap.objs.size f cdv)).units + 65 < cLine := by have := hr.un; omega
  have tk : Takes (cxf P w K mg base ["state", "most", "pairs"] "_law_drawn_class" st_law_drawn_class f cdv A outer s H E) (fun cls d _ H' => E cls d H') := takes_of rfl rfl rfl rfl
  have po : PassesOwn (model P w) (cxf P w K mg base ["state", "most", "pairs"] "_law_drawn_class" st_law_drawn_class f cdv A outer s H E).A (cxf P w K mg base ["state", "most", "pairs"] "_law_drawn_class" st_law_drawn_class f cdv A outer s H E).env (cxf P w K mg base ["state", "most", "pairs"] "_law_drawn_class" st_law_drawn_class f cdv A outer s H E).xe := passes_of rfl
  exact (gs_cons (gs_asg (i := 2) (m := false) hnd (by rfl) (by first | exact Or.inl rfl | exact Or.inr rfl) (ge_call (by exact c_law_drawn_pairs.cald) (hr.mono (by decide)) tk (by rfl) (gl_more (gv 0) (gl_one (gv 1))) (by decide) (by rfl) (by rfl)) (by rfl) (.inl rfl))
 (gs_cons (gs_while po (gb_not (gb_truth (ge_call (by exact c_law_is_class.cald) (hr.mono (by decide)) tk (by rfl) (gl_one (ge_call (by exact c_law_from_pairs.cald) (hr.mono (by decide)) tk (by rfl) (gl_one (gv 2)) (by decide) (by rfl) (by rfl))) (by decide) (by rfl) (by rfl)) (fun _ => rfl)))
 (gs_cons (gs_asg (i := 2) (m := false) hnd (by rfl) (by first | exact Or.inl rfl | exact Or.inr rfl) (gk_01 (gv 2) (ge_neg gn_int)) (by rfl) (.inl rfl))
 gs_nil))
 (gs_cons (gs_ret (ge_call (by exact c_law_from_pairs.cald) (hr.mono (by decide)) tk (by rfl) (gl_one (gv 2)) (by decide) (by rfl) (by rfl)))
 gs_nil)))
/-! ### _law_lot -/
abbrev st_law_lot : Stmt := top 35
def T_law_lot : SS :=
 (sSeq2 (sPar2 2 3 false true (sArgs F_law_steps (sCons (sVar 0) sNil)) (sArgs listOp (sCons (sSlice (sVar 0) none (some (sCon (.int 2)))) sNil)))
 (sSeq2 (sFor (sRng (sCons (sCon (.int 1)) (sCons (sBin .Sub (sArgs lenOp (sCons (sVar 0) sNil)) (sCon (.int 1))) sNil))) (.name 1)
 (sSeq2 (sExpr (sMeth mAppend (sVar 3) (sCons (sBin .Sub (sBin .Add (sBin .Mult (sBin .FloorDiv (sIdx (sVar 2) (sBin .Sub (sVar 1) (sCon (.int 1)))) (sIdx (sVar 2) (sVar 1))) (sIdx (sVar 3) (sNeg (sCon (.int 1))))) (sIdx (sVar 0) (sBin .Add (sVar 1) (sCon (.int 1))))) (sIdx (sVar 0) (sVar 1))) sNil)))
 sSkip))
 (sSeq2 (sRet (sArgs tupleOp (sCons (sVar 3) sNil)))
 sSkip)))
def F_law_lot : List AV → Mem → Out AV := fnRun 1 4 T_law_lot
theorem sc_law_lot : FnScope ["c", "i", "e", "found"] ["c"] (defScope st_law_lot) := C8.fnScope_by rfl
theorem ok_law_lot {P : Program} {w : World} {K : PySem.W.Frag} {mg : Str → Option Value} {base : Heap} {f : Addr} {fd : FuncData} (F : Fun K "_law_lot" "_law_lot" st_law_lot f fd) (B : Bn mg) (c_law_steps : CalD P w K mg base 2 "_law_steps" F_law_steps) : FnOk P w K mg base (L2.CX P w) 3 f fd ["c"] (spOf ⟨K, mg⟩ F_law_lot) := by
  refine fn_ok (N := ["c", "i", "e", "found"]) F sc_law_lot (fun cdv A outer s H E hr => ?_)
  have hnd : (["c", "i", "e", "found"] : List Str).Nodup := sc_law_lot.nd
  have hu : (A.deeper (envOfC "_law_lot" (defScope st_law_lot) s.heap.objs.size f cdv)).units + 65 < cLine := by have := hr.un; omega
  have tk : Takes (cxf P w K mg base ["c", "i", "e", "found"] "_law_lot" st_law_lot f cdv A outer s H E) (fun cls d _ H' => E cls d H') := takes_of rfl rfl rfl rfl
  have po : PassesOwn (model P w) (cxf P w K mg base ["c", "i", "e", "found"] "_law_lot" st_law_lot f cdv A outer s H E).A (cxf P w K mg base ["c", "i", "e", "found"] "_law_lot" st_law_lot f cdv A outer s H E).env (cxf P w K mg base ["c", "i", "e", "found"] "_law_lot" st_law_lot f cdv A outer s H E).xe := passes_of rfl
  exact (gs_cons (gs_par2 (i := 2) (j := 3) (m := false) (n := true) (by rfl) hnd (by rfl) (by rfl) (by decide) (by rfl) (by rfl) (ge_call (by exact c_law_steps.cald) (hr.mono (by decide)) tk (by rfl) (gl_one (gv 0)) (by decide) (by rfl) (by rfl)) (gc_list (by rfl) (gl_one (gk_01 (gv 0) gn_int)) (by rfl) (by rfl) (by rfl) B.list) (by rfl) (by rfl) (by rfl) (by rfl))
 (gs_cons (gs_for (t := (.name 1)) po (by rfl) (gi_rng2 (by rfl) B.range (by rfl) (by rfl) (gl_more gn_int (gl_one (ge_bin (gc_len (by rfl) (gl_one (gv 0)) (by rfl) (by rfl) (by rfl) B.len) gn_int))) (sl_cons (sl_cons sl_nil))) (gg_name (i := 1) hnd (by rfl) (by first | exact Or.inl rfl | exact Or.inr rfl) (by first | exact Or.inl rfl | exact Or.inr rfl))
 (gs_cons (gs_expr (gm_append (gv 3) (gl_one (ge_bin (ge_bin (ge_bin (ge_bin (ge_idx (fun _ _ => rfl) (gv 2) (ge_bin (gv 1) gn_int)) (ge_idx (fun _ _ => rfl) (gv 2) (gv 1))) (ge_idx (fun _ _ => rfl) (gv 3) (ge_neg gn_int))) (ge_idx (fun _ _ => rfl) (gv 0) (ge_bin (gv 1) gn_int))) (ge_idx (fun _ _ => rfl) (gv 0) (gv 1)))) (by rfl) (by rfl) (by rfl) (by rfl) (by rfl)) (by rfl))
 gs_nil) (fun _ => rfl))
 (gs_cons (gs_ret (gc_tuple (by rfl) (gl_one (gv 3)) (by rfl) (by rfl) (by rfl) B.tuple))
 gs_nil)))
/-! ### _law_sums -/
abbrev st_law_sums : Stmt := top 36
def T_law_sums : SS :=
 (sSeq2 (sNewD 2 (.k [(0, .bl true)]))
 (sSeq2 (sFor (sRng (sCons (sCon (.int 1)) (sCons (sBin .Add (sVar 1) (sCon (.int 1))) sNil))) (.name 3)
 (sSeq2 (sIfS (sB (sArgs anyOp (sCons (sComp (sSeq (sVar 0)) (.name 4) sYes (sInD false (sBin .Sub (sVar 3) (sVar 4)) (sVar 2)) (([("v", 4)] : List (Str × Nat)).map (·.2))) sNil)))
 (sSeq2 (sPutD (sVar 2) (sVar 3) (sCon (.bl true)))
 sSkip)
 sSkip)
 sSkip))
 (sSeq2 (sRet (sVar 2))
 sSkip)))
def F_law_sums : List AV → Mem → OutK := fnRunK 2 5 T_law_sums
theorem sc_law_sums : FnScope ["lot", "most", "inside", "k", "v"] ["lot", "most"] (defScope st_law_sums) := C8.fnScope_by rfl
theorem ok_law_sums {P : Program} {w : World} {K : PySem.W.Frag} {mg : Str → Option Value} {base : Heap} {f : Addr} {fd : FuncData} (F : Fun K "_law_sums" "_law_sums" st_law_sums f fd) (B : Bn mg) : FnOk P w K mg base (L2.CX P w) 1 f fd ["lot", "most"] (spOfK ⟨K, mg⟩ F_law_sums) := by
  refine fn_okK (N := ["lot", "most", "inside", "k", "v"]) F sc_law_sums (fun cdv A outer s H E hr => ?_)
  have hnd : (["lot", "most", "inside", "k", "v"] : List Str).Nodup := sc_law_sums.nd
  have hu : (A.deeper (envOfC "_law_sums" (defScope st_law_sums) s.heap.objs.size f cdv)).units + 65 < cLine := by have := hr.un; omega
  have tk : Takes (cxf P w K mg base ["lot", "most", "inside", "k", "v"] "_law_sums" st_law_sums f cdv A outer s H E) (fun cls d _ H' => E cls d H') := takes_of rfl rfl rfl rfl
  have po : PassesOwn (model P w) (cxf P w K mg base ["lot", "most", "inside", "k", "v"] "_law_sums" st_law_sums f cdv A outer s H E).A (cxf P w K mg base ["lot", "most", "inside", "k", "v"] "_law_sums" st_law_sums f cdv A outer s H E).env (cxf P w K mg base ["lot", "most", "inside", "k", "v"] "_law_sums" st_law_sums f cdv A outer s H E).xe := passes_of rfl
  exact (gs_cons (gs_newK1 (i := 2) hnd (by rfl) (by first | exact Or.inl rfl | exact Or.inr rfl) gn_int gn_bl (by rfl) (.inl rfl))
 (gs_cons (gs_for (t := (.name 3)) po (by rfl) (gi_rng2 (by rfl) B.range (by rfl) (by rfl) (gl_more gn_int (gl_one (ge_bin (gv 1) gn_int))) (sl_cons (sl_cons sl_nil))) (gg_name (i := 3) hnd (by rfl) (by first | exact Or.inl rfl | exact Or.inr rfl) (by first | exact Or.inl rfl | exact Or.inr rfl))
 (gs_cons (gs_if (gb_truth (gc_any (by rfl) (gl_one (ge_comp (own := [("v", 4)]) (t := (.name 4)) (by rfl) hnd (gi_seq (gv 0)) (blkOk_by (by rfl)) (fun _ _ _ _ _ => (gg_name (i := 4) hnd (by rfl) (by first | exact Or.inl rfl | exact Or.inr rfl) (by first | exact Or.inl rfl | exact Or.inr rfl))) (fun _ _ _ _ _ => gts_nil) (fun _ _ _ _ _ => (ge_inD hu (by rfl) (ge_bin (gv 3) (gv 4)) (gv 2))) (fun _ => rfl) (by decide))) (by rfl) (by rfl) (by rfl) B.any) (fun _ => rfl))
 (gs_cons (gs_putD hu gn_bl (gv 2) (gv 3) (by rfl))
 gs_nil)
 gs_nil)
 gs_nil) (fun _ => rfl))
 (gs_cons (gs_ret (gv 2))
 gs_nil)))
/-! ### _law_told -/
abbrev st_law_told : Stmt := top 37
def T_law_told : SS :=
 (sSeq2 (sTry ctE (sSeq2 (sRet (sTup (sCons (sCon (.str "told")) (sCons (sArgs F_law_honest (sCons (sCallV [("lot_of_class", Flot_of_class), ("broken_generator", Fbroken_generator), ("class_of_lot", Fclass_of_lot)] (sIdx (sLst (sCons (sCon (.fn "lot_of_class")) (sCons (sCon (.fn "broken_generator")) (sCons (sCon (.fn "class_of_lot")) sNil)))) (sVar 0)) (sCons (sVar 1) sNil)) sNil)) sNil))))
 sSkip) [("Malformed", (xTup2 (fun _ => some (.str "malformed")) (fun _ => some .non))), ("Refused", (xTup2 (fun _ => some (.str "refused")) (xFld "Refused" "reason")))])
 sSkip)
def F_law_told : List AV → Mem → Out AV := fnRun 2 3 T_law_told
theorem sc_law_told : FnScope ["which", "value", "refused"] ["which", "value"] (defScope st_law_told) := C8.fnScope_by rfl
theorem ok_law_told {P : Program} {w : World} {K : PySem.W.Frag} {mg : Str → Option Value} {base : Heap} {f CM CR fR : Addr} {fd : FuncData} (F : Fun K "_law_told" "_law_told" st_law_told f fd) (T : Errs P K mg CM CR fR) (c_law_honest : CalD P w K mg base 9 "_law_honest" F_law_honest) (cbroken_generator : CalD P w K mg base 4 "broken_generator" Fbroken_generator) (cclass_of_lot : CalD P w K mg base 5 "class_of_lot" Fclass_of_lot) (clot_of_class : CalD P w K mg base 6 "lot_of_class" Flot_of_class) : FnOk P w K mg base (L2.CX P w) 10 f fd ["which", "value"] (spOf ⟨K, mg⟩ F_law_told) := by
  refine fn_ok (N := ["which", "value", "refused"]) F sc_law_told (fun cdv A outer s H E hr => ?_)
  have hnd : (["which", "value", "refused"] : List Str).Nodup := sc_law_told.nd
  have hu : (A.deeper (envOfC "_law_told" (defScope st_law_told) s.heap.objs.size f cdv)).units + 65 < cLine := by have := hr.un; omega
  have tk : Takes (cxf P w K mg base ["which", "value", "refused"] "_law_told" st_law_told f cdv A outer s H E) (fun cls d _ H' => E cls d H') := takes_of rfl rfl rfl rfl
  have po : PassesOwn (model P w) (cxf P w K mg base ["which", "value", "refused"] "_law_told" st_law_told f cdv A outer s H E).A (cxf P w K mg base ["which", "value", "refused"] "_law_told" st_law_told f cdv A outer s H E).env (cxf P w K mg base ["which", "value", "refused"] "_law_told" st_law_told f cdv A outer s H E).xe := passes_of rfl
  exact (gs_cons (gs_try (ct := ctE) (l := [⟨"Malformed", .ref CM, none, (xTup2 (fun _ => some (.str "malformed")) (fun _ => some .non))⟩, ⟨"Refused", .ref CR, (some 2), (xTup2 (fun _ => some (.str "refused")) (xFld "Refused" "reason"))⟩]) (by rfl) (by rfl) tk (fun W1 pn1 xe1 tk1 po1 => (gs_cons (gs_ret (ge_tup (gl_more gn_str (gl_one (ge_call (by exact c_law_honest.cald) (hr.mono (by decide)) tk1 (by rfl) (gl_one (ge_callv (k := 9) (tab := [("lot_of_class", Flot_of_class), ("broken_generator", Fbroken_generator), ("class_of_lot", Fclass_of_lot)]) (tab_cons (by exact (clot_of_class.mono (by decide : 6 ≤ 9)).cald) (tab_cons (by exact (cbroken_generator.mono (by decide : 4 ≤ 9)).cald) (tab_cons (by exact (cclass_of_lot.mono (by decide : 5 ≤ 9)).cald) tab_nil))) hr tk1 (ge_idx (fun _ _ => rfl) (ge_lst (gl_more (gn_cal (by exact clot_of_class.cald) (by rfl) (by decide)) (gl_more (gn_cal (by exact cbroken_generator.cald) (by rfl) (by decide)) (gl_one (gn_cal (by exact cclass_of_lot.cald) (by rfl) (by decide)))))) (gv 0)) (gl_one (gv 1)) (by rfl) (by rfl) (by rfl))) (by decide) (by rfl) (by rfl))))))
 gs_nil))
 (by exact (HdsMx.cons (names_own (by rfl) T.gM (by decide)) (fun a oe cls d pn hz hf => gsu (gx_tup2 gx_str gx_non (by rfl) (by rfl))) (HdsMx.consA (names_own (by rfl) T.ref.gC (by decide)) hnd (i := 2) (by rfl) (by rfl) (fun a oe cls d pn hz hf => gsu (gx_tup2 gx_str (gx_reason T (i := 2) hz hf (by rfl) (by first | exact Or.inl rfl | exact Or.inr (Or.inl rfl)) (by decide) (by decide) (by rfl)) (by rfl) (by rfl))) HdsMx.nil))) (by intro h hh; simp only [List.mem_cons, List.mem_nil_iff, or_false] at hh; rcases hh with rfl | rfl <;> first | exact T.ctM | exact T.ctR) (by intro h hh i hi; simp only [List.mem_cons, List.mem_nil_iff, or_false] at hh; rcases hh with rfl | rfl <;> cases hi <;> exact (by decide : 2 < 3)))
 gs_nil)
/-! ### _law_is_row -/
abbrev st_law_is_row : Stmt := top 38
def T_law_is_row : SS :=
 (sSeq2 (sIfS (sOrB (sNotB (sB (sIsi ["tuple"] (sVar 0)))) (sOrB (sNotB (sB (sChain .LtE .LtE (sCon (.int 1)) (sArgs lenOp (sCons (sVar 0) sNil)) (sCon (.int 12))))) (sNotB (sB (sArgs allOp (sCons (sComp (sSeq (sVar 0)) (.name 1) sYes (sAnd (sArgs F_law_is_whole (sCons (sVar 1) sNil)) (sChain .LtE .LtE (sCon (.int 1)) (sVar 1) (sCon (.int 1000)))) (([("v", 1)] : List (Str × Nat)).map (·.2))) sNil))))))
 (sSeq2 (sRet (sCon (.bl false)))
 sSkip)
 sSkip)
 (sSeq2 (sRet (sAnd (sCmp .Eq (sArgs lenOp (sCons (sComp (sRng (sCons (sCon (.int 1)) (sCons (sArgs lenOp (sCons (sVar 0) sNil)) sNil))) (.name 2) (sB (sCmp .LtE (sIdx (sVar 0) (sVar 2)) (sIdx (sVar 0) (sBin .Sub (sVar 2) (sCon (.int 1)))))) (sVar 2) (([("i", 2)] : List (Str × Nat)).map (·.2))) sNil)) (sCon (.int 0))) (sCmp .Eq (sIdx (sArgs F_law_steps (sCons (sVar 0) sNil)) (sNeg (sCon (.int 1)))) (sCon (.int 1)))))
 sSkip))
def F_law_is_row : List AV → Mem → Out AV := fnRun 1 3 T_law_is_row
theorem sc_law_is_row : FnScope ["value", "v", "i"] ["value"] (defScope st_law_is_row) := C8.fnScope_by rfl
theorem ok_law_is_row {P : Program} {w : World} {K : PySem.W.Frag} {mg : Str → Option Value} {base : Heap} {f : Addr} {fd : FuncData} (F : Fun K "_law_is_row" "_law_is_row" st_law_is_row f fd) (B : Bn mg) (c_law_is_whole : CalD P w K mg base 1 "_law_is_whole" F_law_is_whole) (c_law_steps : CalD P w K mg base 2 "_law_steps" F_law_steps) : FnOk P w K mg base (L2.CX P w) 3 f fd ["value"] (spOf ⟨K, mg⟩ F_law_is_row) := by
  refine fn_ok (N := ["value", "v", "i"]) F sc_law_is_row (fun cdv A outer s H E hr => ?_)
  have hnd : (["value", "v", "i"] : List Str).Nodup := sc_law_is_row.nd
  have hu : (A.deeper (envOfC "_law_is_row" (defScope st_law_is_row) s.heap.objs.size f cdv)).units + 65 < cLine := by have := hr.un; omega
  have tk : Takes (cxf P w K mg base ["value", "v", "i"] "_law_is_row" st_law_is_row f cdv A outer s H E) (fun cls d _ H' => E cls d H') := takes_of rfl rfl rfl rfl
  have po : PassesOwn (model P w) (cxf P w K mg base ["value", "v", "i"] "_law_is_row" st_law_is_row f cdv A outer s H E).A (cxf P w K mg base ["value", "v", "i"] "_law_is_row" st_law_is_row f cdv A outer s H E).env (cxf P w K mg base ["value", "v", "i"] "_law_is_row" st_law_is_row f cdv A outer s H E).xe := passes_of rfl
  exact (gs_cons (gs_if (gb_or (gb_not (gb_truth (ge_isi1 (u := "tuple") (by rfl) B.isinstance (by decide) (pe_bltn (by rfl) B.tuple boot_tuple (by rfl)) (gv 0) (by rfl) (by rfl) (by rfl)) (fun _ => rfl))) (gb_or (gb_not (gb_chain hu (by rfl) gn_int (gc_len (by rfl) (gl_one (gv 0)) (by rfl) (by rfl) (by rfl) B.len) gn_int)) (gb_or1 (gb_not (gb_truth (gc_all (by rfl) (gl_one (ge_comp (own := [("v", 1)]) (t := (.name 1)) (by rfl) hnd (gi_seq (gv 0)) (blkOk_by (by rfl)) (fun _ _ _ _ _ => (gg_name (i := 1) hnd (by rfl) (by first | exact Or.inl rfl | exact Or.inr rfl) (by first | exact Or.inl rfl | exact Or.inr rfl))) (fun _ _ _ _ _ => gts_nil) (fun _ _ _ _ _ => (ge_and (ge_call (by exact c_law_is_whole.cald) (hr.mono (by decide)) takesW (by rfl) (gl_one (gv 1)) (by decide) (by rfl) (by rfl)) (ge_one1 (ge_chain hu (by rfl) gn_int (gv 1) gn_int)))) (fun _ => rfl) (by decide))) (by rfl) (by rfl) (by rfl) B.all) (fun _ => rfl)))))).pt
 (gs_cons (gs_ret gn_bl)
 gs_nil)
 gs_nil)
 (gs_cons (gs_ret (ge_and (ge_cmp hu (by rfl) (gc_len (by rfl) (gl_one (ge_comp (own := [("i", 2)]) (t := (.name 2)) (by rfl) hnd (gi_rng2 (by rfl) B.range (by rfl) (by rfl) (gl_more gn_int (gl_one (gc_len (by rfl) (gl_one (gv 0)) (by rfl) (by rfl) (by rfl) B.len))) (sl_cons (sl_cons sl_nil))) (blkOk_by (by rfl)) (fun _ _ _ _ _ => (gg_name (i := 2) hnd (by rfl) (by first | exact Or.inl rfl | exact Or.inr rfl) (by first | exact Or.inl rfl | exact Or.inr rfl))) (fun _ _ _ _ _ => gts_one (gb_cmp hu (by rfl) (ge_idx (fun _ _ => rfl) (gv 0) (gv 2)) (ge_idx (fun _ _ => rfl) (gv 0) (ge_bin (gv 2) gn_int)))) (fun _ _ _ _ _ => (gv 2)) (fun _ => rfl) (by decide))) (by rfl) (by rfl) (by rfl) B.len) gn_int) (ge_one1 (ge_cmp hu (by rfl) (ge_idx (fun _ _ => rfl) (ge_call (by exact c_law_steps.cald) (hr.mono (by decide)) tk (by rfl) (gl_one (gv 0)) (by decide) (by rfl) (by rfl)) (ge_neg gn_int)) gn_int))))
 gs_nil))
/-! ### _law_broken -/
abbrev st_law_broken : Stmt := top 39
def T_law_broken : SS :=
 (sSeq2 (sAsg 1 false (sArgs F_law_steps (sCons (sVar 0) sNil)))
 (sSeq2 (sFor (sRng (sCons (sCon (.int 1)) (sCons (sArgs lenOp (sCons (sVar 0) sNil)) sNil))) (.name 2)
 (sSeq2 (sIfS (sOrB (sB (sCmp .Eq (sIdx (sVar 1) (sVar 2)) (sIdx (sVar 1) (sBin .Sub (sVar 2) (sCon (.int 1)))))) (sAndB (sB (sCmp .Gt (sVar 2) (sCon (.int 1)))) (sB (sCmp .GtE (sBin .Mult (sBin .FloorDiv (sIdx (sVar 1) (sBin .Sub (sVar 2) (sCon (.int 2)))) (sIdx (sVar 1) (sBin .Sub (sVar 2) (sCon (.int 1))))) (sIdx (sVar 0) (sBin .Sub (sVar 2) (sCon (.int 1))))) (sIdx (sVar 0) (sVar 2))))))
 (sSeq2 (sRet (sVar 2))
 sSkip)
 sSkip)
 sSkip))
 (sSeq2 (sRet (sCon .non))
 sSkip)))
def F_law_broken : List AV → Mem → Out AV := fnRun 1 3 T_law_broken
theorem sc_law_broken : FnScope ["lot", "e", "i"] ["lot"] (defScope st_law_broken) := C8.fnScope_by rfl
theorem ok_law_broken {P : Program} {w : World} {K : PySem.W.Frag} {mg : Str → Option Value} {base : Heap} {f : Addr} {fd : FuncData} (F : Fun K "_law_broken" "_law_broken" st_law_broken f fd) (B : Bn mg) (c_law_steps : CalD P w K mg base 2 "_law_steps" F_law_steps) : FnOk P w K mg base (L2.CX P w) 3 f fd ["lot"] (spOf ⟨K, mg⟩ F_law_broken) := by
  refine fn_ok (N := ["lot", "e", "i"]) F sc_law_broken (fun cdv A outer s H E hr => ?_)
  have hnd : (["lot", "e", "i"] : List Str).Nodup := sc_law_broken.nd
  have hu : (A.deeper (envOfC "_law_broken" (defScope st_law_broken) s.heap.objs.size f cdv)).units + 65 < cLine := by have := hr.un; omega
  have tk : Takes (cxf P w K mg base ["lot", "e", "i"] "_law_broken" st_law_broken f cdv A outer s H E) (fun cls d _ H' => E cls d H') := takes_of rfl rfl rfl rfl
  have po : PassesOwn (model P w) (cxf P w K mg base ["lot", "e", "i"] "_law_broken" st_law_broken f cdv A outer s H E).A (cxf P w K mg base ["lot", "e", "i"] "_law_broken" st_law_broken f cdv A outer s H E).env (cxf P w K mg base ["lot", "e", "i"] "_law_broken" st_law_broken f cdv A outer s H E).xe := passes_of rfl
  exact (gs_cons (gs_asg (i := 1) (m := false) hnd (by rfl) (by first | exact Or.inl rfl | exact Or.inr rfl) (ge_call (by exact c_law_steps.cald) (hr.mono (by decide)) tk (by rfl) (gl_one (gv 0)) (by decide) (by rfl) (by rfl)) (by rfl) (.inl rfl))
 (gs_cons (gs_for (t := (.name 2)) po (by rfl) (gi_rng2 (by rfl) B.range (by rfl) (by rfl) (gl_more gn_int (gl_one (gc_len (by rfl) (gl_one (gv 0)) (by rfl) (by rfl) (by rfl) B.len))) (sl_cons (sl_cons sl_nil))) (gg_name (i := 2) hnd (by rfl) (by first | exact Or.inl rfl | exact Or.inr rfl) (by first | exact Or.inl rfl | exact Or.inr rfl))
 (gs_cons (gs_if (gb_or (gb_cmp hu (by rfl) (ge_idx (fun _ _ => rfl) (gv 1) (gv 2)) (ge_idx (fun _ _ => rfl) (gv 1) (ge_bin (gv 2) gn_int))) (gb_or1 (gb_and (gb_cmp hu (by rfl) (gv 2) gn_int) (gb_and1 (gb_cmp hu (by rfl) (ge_bin (ge_bin (ge_idx (fun _ _ => rfl) (gv 1) (ge_bin (gv 2) gn_int)) (ge_idx (fun _ _ => rfl) (gv 1) (ge_bin (gv 2) gn_int))) (ge_idx (fun _ _ => rfl) (gv 0) (ge_bin (gv 2) gn_int))) (ge_idx (fun _ _ => rfl) (gv 0) (gv 2))))).pt)).pt
 (gs_cons (gs_ret (gv 2))
 gs_nil)
 gs_nil)
 gs_nil) (fun _ => rfl))
 (gs_cons (gs_ret gn_non)
 gs_nil)))
/-! ### _law_class_of -/
abbrev st_law_class_of : Stmt := top 40
def T_law_class_of : SS :=
 (sSeq2 (sPar2 2 3 false true (sArgs F_law_steps (sCons (sVar 0) sNil)) (sArgs listOp (sCons (sSlice (sVar 0) none (some (sCon (.int 2)))) sNil)))
 (sSeq2 (sFor (sRng (sCons (sCon (.int 1)) (sCons (sBin .Sub (sArgs lenOp (sCons (sVar 0) sNil)) (sCon (.int 1))) sNil))) (.name 1)
 (sSeq2 (sExpr (sMeth mAppend (sVar 3) (sCons (sBin .Add (sBin .Sub (sIdx (sVar 0) (sBin .Add (sVar 1) (sCon (.int 1)))) (sBin .Mult (sBin .FloorDiv (sIdx (sVar 2) (sBin .Sub (sVar 1) (sCon (.int 1)))) (sIdx (sVar 2) (sVar 1))) (sIdx (sVar 0) (sVar 1)))) (sIdx (sVar 3) (sNeg (sCon (.int 1))))) sNil)))
 sSkip))
 (sSeq2 (sRet (sArgs tupleOp (sCons (sVar 3) sNil)))
 sSkip)))
def F_law_class_of : List AV → Mem → Out AV := fnRun 1 4 T_law_class_of
theorem sc_law_class_of : FnScope ["lot", "i", "e", "found"] ["lot"] (defScope st_law_class_of) := C8.fnScope_by rfl
theorem ok_law_class_of {P : Program} {w : World} {K : PySem.W.Frag} {mg : Str → Option Value} {base : Heap} {f : Addr} {fd : FuncData} (F : Fun K "_law_class_of" "_law_class_of" st_law_class_of f fd) (B : Bn mg) (c_law_steps : CalD P w K mg base 2 "_law_steps" F_law_steps) : FnOk P w K mg base (L2.CX P w) 3 f fd ["lot"] (spOf ⟨K, mg⟩ F_law_class_of) := by
  refine fn_ok (N := ["lot", "i", "e", "found"]) F sc_law_class_of (fun cdv A outer s H E hr => ?_)
  have hnd : (["lot", "i", "e", "found"] : List Str).Nodup := sc_law_class_of.nd
  have hu : (A.deeper (envOfC "_law_class_of" (defScope st_law_class_of) s.heap.objs.size f cdv)).units + 65 < cLine := by have := hr.un; omega
  have tk : Takes (cxf P w K mg base ["lot", "i", "e", "found"] "_law_class_of" st_law_class_of f cdv A outer s H E) (fun cls d _ H' => E cls d H') := takes_of rfl rfl rfl rfl
  have po : PassesOwn (model P w) (cxf P w K mg base ["lot", "i", "e", "found"] "_law_class_of" st_law_class_of f cdv A outer s H E).A (cxf P w K mg base ["lot", "i", "e", "found"] "_law_class_of" st_law_class_of f cdv A outer s H E).env (cxf P w K mg base ["lot", "i", "e", "found"] "_law_class_of" st_law_class_of f cdv A outer s H E).xe := passes_of rfl
  exact (gs_cons (gs_par2 (i := 2) (j := 3) (m := false) (n := true) (by rfl) hnd (by rfl) (by rfl) (by decide) (by rfl) (by rfl) (ge_call (by exact c_law_steps.cald) (hr.mono (by decide)) tk (by rfl) (gl_one (gv 0)) (by decide) (by rfl) (by rfl)) (gc_list (by rfl) (gl_one (gk_01 (gv 0) gn_int)) (by rfl) (by rfl) (by rfl) B.list) (by rfl) (by rfl) (by rfl) (by rfl))
 (gs_cons (gs_for (t := (.name 1)) po (by rfl) (gi_rng2 (by rfl) B.range (by rfl) (by rfl) (gl_more gn_int (gl_one (ge_bin (gc_len (by rfl) (gl_one (gv 0)) (by rfl) (by rfl) (by rfl) B.len) gn_int))) (sl_cons (sl_cons sl_nil))) (gg_name (i := 1) hnd (by rfl) (by first | exact Or.inl rfl | exact Or.inr rfl) (by first | exact Or.inl rfl | exact Or.inr rfl))
 (gs_cons (gs_expr (gm_append (gv 3) (gl_one (ge_bin (ge_bin (ge_idx (fun _ _ => rfl) (gv 0) (ge_bin (gv 1) gn_int)) (ge_bin (ge_bin (ge_idx (fun _ _ => rfl) (gv 2) (ge_bin (gv 1) gn_int)) (ge_idx (fun _ _ => rfl) (gv 2) (gv 1))) (ge_idx (fun _ _ => rfl) (gv 0) (gv 1)))) (ge_idx (fun _ _ => rfl) (gv 3) (ge_neg gn_int)))) (by rfl) (by rfl) (by rfl) (by rfl) (by rfl)) (by rfl))
 gs_nil) (fun _ => rfl))
 (gs_cons (gs_ret (gc_tuple (by rfl) (gl_one (gv 3)) (by rfl) (by rfl) (by rfl) B.tuple))
 gs_nil)))
/-! ### law -/
abbrev stlaw : Stmt := top 41
def Tlaw : SS :=
 (sSeq2 (sAsg 1 true (sArgs F_law_state (sCons (sVar 0) sNil)))
 (sSeq2 (sAsg 2 false (sArgs F_law_drawn_class (sCons (sVar 1) (sCons (sIdx (sLst (sCons (sCon (.int 12)) (sCons (sCon (.int 60)) sNil))) (sArgs F_law_take (sCons (sVar 1) (sCons (sCon (.int 2)) sNil)))) sNil))))
 (sSeq2 (sAsg 3 false (sArgs F_law_lot (sCons (sVar 2) sNil)))
 (sSeq2 (sIfS (sNotB (sB (sArgs (F_law_same 8) (sCons (sArgs F_law_told (sCons (sCon (.int 0)) (sCons (sVar 2) sNil))) (sCons (sTup (sCons (sCon (.str "told")) (sCons (sVar 3) sNil))) sNil)))))
 (sSeq2 (sRet (sCon (.bl false)))
 sSkip)
 sSkip)
 (sSeq2 (sAsg 4 false (sArgs F_law_conductor (sCons (sVar 2) sNil)))
 (sSeq2 (sIfS (sB (sCmp .LtE (sVar 4) (sCon (.int 900))))
 (sSeq2 (sAsgK 9 (sArgsK F_law_sums (sCons (sVar 3) (sCons (sBin .Add (sVar 4) (sIdx (sVar 3) (sCon (.int 0)))) sNil))))
 (sSeq2 (sIfS (sOrB (sAndB (sB (sCmp .Gt (sVar 4) (sCon (.int 0)))) (sB (sInD false (sBin .Sub (sVar 4) (sCon (.int 1))) (sVar 9)))) (sB (sCmp .NotEq (sBin .Mult (sArgs lenOp (sCons (sComp (sRng (sCons (sVar 4) sNil)) (.name 16) (sB (sInD false (sVar 16) (sVar 9))) (sVar 16) (([("k", 16)] : List (Str × Nat)).map (·.2))) sNil)) (sCon (.int 2))) (sVar 4))))
 (sSeq2 (sRet (sCon (.bl false)))
 sSkip)
 sSkip)
 (sSeq2 (sIfS (sNotB (sB (sArgs allOp (sCons (sComp (sRng (sCons (sIdx (sVar 3) (sCon (.int 0))) sNil)) (.name 16) sYes (sInD false (sBin .Add (sVar 4) (sVar 16)) (sVar 9)) (([("k", 16)] : List (Str × Nat)).map (·.2))) sNil))))
 (sSeq2 (sRet (sCon (.bl false)))
 sSkip)
 sSkip)
 (sSeq2 (sFor (sRng (sCons (sArgs lenOp (sCons (sVar 3) sNil)) sNil)) (.name 10)
 (sSeq2 (sIfS (sInK (sIdx (sVar 3) (sVar 10)) (sArgsK F_law_sums (sCons (sSlice (sVar 3) none (some (sVar 10))) (sCons (sIdx (sVar 3) (sVar 10)) sNil))))
 (sSeq2 (sRet (sCon (.bl false)))
 sSkip)
 sSkip)
 sSkip))
 sSkip))))
 sSkip)
 (sSeq2 (sAsg 5 true (sLst (sCons (sVar 3) (sCons (sTup (sCons (sCon (.int 1)) sNil)) (sCons (sTup (sCons (sCon (.int 2)) (sCons (sCon (.int 3)) sNil))) (sCons (sTup (sCons (sCon (.int 4)) (sCons (sCon (.int 6)) (sCons (sCon (.int 13)) sNil)))) (sCons (sTup (sCons (sCon (.int 4)) (sCons (sCon (.int 6)) (sCons (sCon (.int 11)) sNil)))) (sCons (sTup (sCons (sCon (.int 4)) (sCons (sCon (.int 6)) (sCons (sCon (.int 12)) (sCons (sCon (.int 13)) sNil))))) (sCons (sTup (sCons (sCon (.int 3)) (sCons (sCon (.int 5)) (sCons (sCon (.int 7)) sNil)))) (sCons (sTup (sCons (sCon (.int 2)) (sCons (sCon (.int 1000)) sNil))) (sCons (sTup (sCons (sCon (.int 2)) (sCons (sCon (.int 999)) sNil))) (sCons (sTup (sCons (sCon (.int 1)) (sCons (sCon (.int 2)) sNil))) (sCons (sTup (sCons (sCon (.int 61)) (sCons (sCon (.int 62)) sNil))) (sCons (sTup (sCons (sCon (.int 59)) (sCons (sCon (.int 61)) sNil))) (sCons (sTup (sCons (sCon (.int 1000)) sNil)) (sCons (sTup sNil) sNil))))))))))))))))
 (sSeq2 (sAsg 5 true (sBin .Add (sVar 5) (sLst (sCons (sSlice (sVar 3) none (some (sNeg (sCon (.int 1))))) (sCons (sBin .Add (sVar 3) (sTup (sCons (sBin .Add (sIdx (sVar 3) (sNeg (sCon (.int 1)))) (sCon (.int 1))) sNil))) (sCons (sBin .Add (sVar 3) (sTup (sCons (sCon (.int 1001)) sNil))) (sCons (sArgs listOp (sCons (sVar 3) sNil)) (sCons (sRev (sVar 3)) (sCons (sBin .Add (sVar 3) (sSlice (sVar 3) (some (sNeg (sCon (.int 1)))) none)) (sCons (sCon .non) (sCons (sCon (.int 5)) (sCons (sTup (sCons (sCon (.bl true)) sNil)) (sCons (sTup (sCons (sCon (.int 0)) (sCons (sCon (.int 1)) sNil))) (sCons (sTup (sCons (sCon (.int 2)) (sCons (sCon (.str "3")) sNil))) (sCons (sRgT (sCon (.int 1)) (sCon (.int 14))) (sCons (sRgT (sCon (.int 2)) (sCon (.int 14))) sNil))))))))))))))))
 (sSeq2 (sFor (sRng (sCons (sCon (.int 4)) sNil)) (.name 6)
 (sSeq2 (sAsg 10 false (sArgs F_law_take (sCons (sVar 1) (sCons (sArgs lenOp (sCons (sVar 3) sNil)) sNil))))
 (sSeq2 (sExpr (sMeth mAppend (sVar 5) (sCons (sBin .Add (sBin .Add (sSlice (sVar 3) none (some (sVar 10))) (sTup (sCons (sBin .Add (sIdx (sVar 3) (sVar 10)) (sIdx (sLst (sCons (sCon (.int 1)) (sCons (sNeg (sCon (.int 1))) (sCons (sCon (.int 2)) (sCons (sIdx (sVar 3) (sCon (.int 0))) (sCons (sCon (.int 3)) sNil)))))) (sArgs F_law_take (sCons (sVar 1) (sCons (sCon (.int 5)) sNil))))) sNil))) (sSlice (sVar 3) (some (sBin .Add (sVar 10) (sCon (.int 1)))) none)) sNil)))
 (sSeq2 (sAsg 11 true (sLst sNil))
 (sSeq2 (sFor (sRng (sCons (sBin .Add (sCon (.int 1)) (sArgs F_law_take (sCons (sVar 1) (sCons (sCon (.int 4)) sNil)))) sNil)) (.name 12)
 (sSeq2 (sExpr (sMeth mAppend (sVar 11) (sCons (sBin .Add (sBin .Add (sIf (sB (sCmp .Gt (sArgs lenOp (sCons (sVar 11) sNil)) (sCon (.int 0)))) (sIdx (sVar 11) (sNeg (sCon (.int 1)))) (sCon (.int 1))) (sCon (.int 1))) (sArgs F_law_take (sCons (sVar 1) (sCons (sCon (.int 12)) sNil)))) sNil)))
 sSkip))
 (sSeq2 (sExpr (sMeth mAppend (sVar 5) (sCons (sArgs tupleOp (sCons (sVar 11) sNil)) sNil)))
 sSkip))))))
 (sSeq2 (sFor (sSeq (sVar 5)) (.name 7)
 (sSeq2 (sIfS (sNotB (sB (sArgs F_law_is_row (sCons (sVar 7) sNil))))
 (sSeq2 (sIfS (sOrB (sB (sCmp .NotEq (sIdx (sArgs F_law_told (sCons (sCon (.int 1)) (sCons (sVar 7) sNil))) (sCon (.int 0))) (sCon (.str "malformed")))) (sB (sCmp .NotEq (sIdx (sArgs F_law_told (sCons (sCon (.int 2)) (sCons (sVar 7) sNil))) (sCon (.int 0))) (sCon (.str "malformed")))))
 (sSeq2 (sRet (sCon (.bl false)))
 sSkip)
 sSkip)
 sSkip)
 (sSeq2 (sAsg 13 false (sArgs F_law_broken (sCons (sVar 7) sNil)))
 (sSeq2 (sIfS (sNotB (sB (sArgs (F_law_same 8) (sCons (sArgs F_law_told (sCons (sCon (.int 1)) (sCons (sVar 7) sNil))) (sCons (sTup (sCons (sCon (.str "told")) (sCons (sVar 13) sNil))) sNil)))))
 (sSeq2 (sRet (sCon (.bl false)))
 sSkip)
 sSkip)
 (sSeq2 (sAsg 14 false (sTup (sCons (sCon (.str "refused")) (sCons (sCon (.str "branch")) sNil))))
 (sSeq2 (sIfS (sB (sCmp .Is (sVar 13) (sCon .non)))
 (sSeq2 (sAsg 15 false (sArgs F_law_class_of (sCons (sVar 7) sNil)))
 (sSeq2 (sAsg 14 false (sIf (sB (sArgs F_law_is_class (sCons (sVar 15) sNil))) (sTup (sCons (sCon (.str "told")) (sCons (sVar 15) sNil))) (sTup (sCons (sCon (.str "refused")) (sCons (sCon (.str "large")) sNil)))))
 sSkip))
 sSkip)
 (sSeq2 (sIfS (sNotB (sB (sArgs (F_law_same 8) (sCons (sArgs F_law_told (sCons (sCon (.int 2)) (sCons (sVar 7) sNil))) (sCons (sVar 14) sNil)))))
 (sSeq2 (sRet (sCon (.bl false)))
 sSkip)
 sSkip)
 sSkip))))))
 sSkip))
 (sSeq2 (sFor (sSeq (sLst (sCons (sCon .non) (sCons (sTup sNil) (sCons (sTup (sCons (sCon (.int 2)) (sCons (sCon (.int 4)) sNil))) (sCons (sLst (sCons (sCon (.int 2)) (sCons (sCon (.int 3)) sNil))) (sCons (sTup (sCons (sCon (.int 3)) (sCons (sCon (.int 2)) sNil))) (sCons (sCon (.int 5)) (sCons (sTup (sCons (sCon (.int 2)) sNil)) (sCons (sTup (sCons (sCon (.int 2)) (sCons (sCon (.int 301)) sNil))) sNil)))))))))) (.name 8)
 (sSeq2 (sIfS (sB (sCmp .NotEq (sIdx (sArgs F_law_told (sCons (sCon (.int 0)) (sCons (sVar 8) sNil))) (sCon (.int 0))) (sCon (.str "malformed"))))
 (sSeq2 (sRet (sCon (.bl false)))
 sSkip)
 sSkip)
 sSkip))
 (sSeq2 (sRet (sCon (.bl true)))
 sSkip))))))))))))
def Flaw : List AV → Mem → Out AV := fnRun 1 17 Tlaw
theorem sclaw : FnScope ["script", "state", "c", "lot", "end", "rows", "turn", "row", "bad", "inside", "i", "drawn", "step", "place", "due", "whole", "k"] ["script"] (defScope stlaw) := C8.fnScope_by rfl
theorem oklaw {P : Program} {w : World} {K : PySem.W.Frag} {mg : Str → Option Value} {base : Heap} {f : Addr} {fd : FuncData} (F : Fun K "law" "law" stlaw f fd) (B : Bn mg) (c_law_broken : CalD P w K mg base 3 "_law_broken" F_law_broken) (c_law_class_of : CalD P w K mg base 3 "_law_class_of" F_law_class_of) (c_law_conductor : CalD P w K mg base 3 "_law_conductor" F_law_conductor) (c_law_drawn_class : CalD P w K mg base 5 "_law_drawn_class" F_law_drawn_class) (c_law_is_class : CalD P w K mg base 4 "_law_is_class" F_law_is_class) (c_law_is_row : CalD P w K mg base 3 "_law_is_row" F_law_is_row) (c_law_lot : CalD P w K mg base 3 "_law_lot" F_law_lot) (c_law_same : CalD P w K mg base 9 "_law_same" (F_law_same 8)) (c_law_state : CalD P w K mg base 1 "_law_state" F_law_state) (c_law_sums : CalDK P w K mg base 1 "_law_sums" F_law_sums) (c_law_take : CalD P w K mg base 1 "_law_take" F_law_take) (c_law_told : CalD P w K mg base 10 "_law_told" F_law_told) : FnOk P w K mg base (L2.CX P w) 11 f fd ["script"] (spOf ⟨K, mg⟩ Flaw) := by
  refine fn_ok (N := ["script", "state", "c", "lot", "end", "rows", "turn", "row", "bad", "inside", "i", "drawn", "step", "place", "due", "whole", "k"]) F sclaw (fun cdv A outer s H E hr => ?_)
  have hnd : (["script", "state", "c", "lot", "end", "rows", "turn", "row", "bad", "inside", "i", "drawn", "step", "place", "due", "whole", "k"] : List Str).Nodup := sclaw.nd
  have hu : (A.deeper (envOfC "law" (defScope stlaw) s.heap.objs.size f cdv)).units + 65 < cLine := by have := hr.un; omega
  have tk : Takes (cxf P w K mg base ["script", "state", "c", "lot", "end", "rows", "turn", "row", "bad", "inside", "i", "drawn", "step", "place", "due", "whole", "k"] "law" stlaw f cdv A outer s H E) (fun cls d _ H' => E cls d H') := takes_of rfl rfl rfl rfl
  have po : PassesOwn (model P w) (cxf P w K mg base ["script", "state", "c", "lot", "end", "rows", "turn", "row", "bad", "inside", "i", "drawn", "step", "place", "due", "whole", "k"] "law" stlaw f cdv A outer s H E).A (cxf P w K mg base ["script", "state", "c", "lot", "end", "rows", "turn", "row", "bad", "inside", "i", "drawn", "step", "place", "due", "whole", "k"] "law" stlaw f cdv A outer s H E).env (cxf P w K mg base ["script", "state", "c", "lot", "end", "rows", "turn", "row", "bad", "inside", "i", "drawn", "step", "place", "due", "whole", "k"] "law" stlaw f cdv A outer s H E).xe := passes_of rfl
  exact (gs_cons (gs_asg (i := 1) (m := true) hnd (by rfl) (by first | exact Or.inl rfl | exact Or.inr rfl) (ge_call (by exact c_law_state.cald) (hr.mono (by decide)) tk (by rfl) (gl_one (gv 0)) (by decide) (by rfl) (by rfl)) (by rfl) (.inl rfl))
 (gs_cons (gs_asg (i := 2) (m := false) hnd (by rfl) (by first | exact Or.inl rfl | exact Or.inr rfl) (ge_call (by exact c_law_drawn_class.cald) (hr.mono (by decide)) tk (by rfl) (gl_more (gv 1) (gl_one (ge_idx (fun _ _ => rfl) (ge_lst (gl_more gn_int (gl_one gn_int))) (ge_call (by exact c_law_take.cald) (hr.mono (by decide)) tk (by rfl) (gl_more (gv 1) (gl_one gn_int)) (by decide) (by rfl) (by rfl))))) (by decide) (by rfl) (by rfl)) (by rfl) (.inl rfl))
 (gs_cons (gs_asg (i := 3) (m := false) hnd (by rfl) (by first | exact Or.inl rfl | exact Or.inr rfl) (ge_call (by exact c_law_lot.cald) (hr.mono (by decide)) tk (by rfl) (gl_one (gv 2)) (by decide) (by rfl) (by rfl)) (by rfl) (.inl rfl))
 (gs_cons (gs_if (gb_not (gb_truth (ge_call (by exact c_law_same.cald) (hr.mono (by decide)) tk (by rfl) (gl_more (ge_call (by exact c_law_told.cald) (hr.mono (by decide)) tk (by rfl) (gl_more gn_int (gl_one (gv 2))) (by decide) (by rfl) (by rfl)) (gl_one (ge_tup (gl_more gn_str (gl_one (gv 3)))))) (by decide) (by rfl) (by rfl)) (fun _ => rfl)))
 (gs_cons (gs_ret gn_bl)
 gs_nil)
 gs_nil)
 (gs_cons (gs_asg (i := 4) (m := false) hnd (by rfl) (by first | exact Or.inl rfl | exact Or.inr rfl) (ge_call (by exact c_law_conductor.cald) (hr.mono (by decide)) tk (by rfl) (gl_one (gv 2)) (by decide) (by rfl) (by rfl)) (by rfl) (.inl rfl))
 (gs_cons (gs_if (gb_cmp hu (by rfl) (gv 4) gn_int)
 (gs_cons (gs_asgK (i := 9) hnd (by rfl) (by first | exact Or.inl rfl | exact Or.inr rfl) (gek_call (by exact c_law_sums.cald) (hr.mono (by decide)) tk (by rfl) (gl_more (gv 3) (gl_one (ge_bin (gv 4) (ge_idx (fun _ _ => rfl) (gv 3) gn_int)))) (by decide) (by rfl) (by rfl)) (by rfl) (.inl rfl))
 (gs_cons (gs_if (gb_or (gb_and (gb_cmp hu (by rfl) (gv 4) gn_int) (gb_and1 (gb_inD hu (by rfl) (ge_bin (gv 4) gn_int) (gv 9)))).pt (gb_or1 (gb_cmp hu (by rfl) (ge_bin (gc_len (by rfl) (gl_one (ge_comp (own := [("k", 16)]) (t := (.name 16)) (by rfl) hnd (gi_rng1 (by rfl) B.range (by rfl) (gl_one (gv 4)) (sl_cons sl_nil)) (blkOk_by (by rfl)) (fun _ _ _ _ _ => (gg_name (i := 16) hnd (by rfl) (by first | exact Or.inl rfl | exact Or.inr rfl) (by first | exact Or.inl rfl | exact Or.inr rfl))) (fun _ _ _ _ _ => gts_one (gb_inD hu (by rfl) (gv 16) (gv 9))) (fun _ _ _ _ _ => (gv 16)) (fun _ => rfl) (by decide))) (by rfl) (by rfl) (by rfl) B.len) gn_int) (gv 4)))).pt
 (gs_cons (gs_ret gn_bl)
 gs_nil)
 gs_nil)
 (gs_cons (gs_if (gb_not (gb_truth (gc_all (by rfl) (gl_one (ge_comp (own := [("k", 16)]) (t := (.name 16)) (by rfl) hnd (gi_rng1 (by rfl) B.range (by rfl) (gl_one (ge_idx (fun _ _ => rfl) (gv 3) gn_int)) (sl_cons sl_nil)) (blkOk_by (by rfl)) (fun _ _ _ _ _ => (gg_name (i := 16) hnd (by rfl) (by first | exact Or.inl rfl | exact Or.inr rfl) (by first | exact Or.inl rfl | exact Or.inr rfl))) (fun _ _ _ _ _ => gts_nil) (fun _ _ _ _ _ => (ge_inD hu (by rfl) (ge_bin (gv 4) (gv 16)) (gv 9))) (fun _ => rfl) (by decide))) (by rfl) (by rfl) (by rfl) B.all) (fun _ => rfl)))
 (gs_cons (gs_ret gn_bl)
 gs_nil)
 gs_nil)
 (gs_cons (gs_for (t := (.name 10)) po (by rfl) (gi_rng1 (by rfl) B.range (by rfl) (gl_one (gc_len (by rfl) (gl_one (gv 3)) (by rfl) (by rfl) (by rfl) B.len)) (sl_cons sl_nil)) (gg_name (i := 10) hnd (by rfl) (by first | exact Or.inl rfl | exact Or.inr rfl) (by first | exact Or.inl rfl | exact Or.inr rfl))
 (gs_cons (gs_if (gb_inK hu (by rfl) (ge_idx (fun _ _ => rfl) (gv 3) (gv 10)) (gek_call (by exact c_law_sums.cald) (hr.mono (by decide)) tk (by rfl) (gl_more (gk_01 (gv 3) (gv 10)) (gl_one (ge_idx (fun _ _ => rfl) (gv 3) (gv 10)))) (by decide) (by rfl) (by rfl)))
 (gs_cons (gs_ret gn_bl)
 gs_nil)
 gs_nil)
 gs_nil) (fun _ => rfl))
 gs_nil))))
 gs_nil)
 (gs_cons (gs_asg (i := 5) (m := true) hnd (by rfl) (by first | exact Or.inl rfl | exact Or.inr rfl) (ge_lst (gl_more (gv 3) (gl_more (ge_tup (gl_one gn_int)) (gl_more (ge_tup (gl_more gn_int (gl_one gn_int))) (gl_more (ge_tup (gl_more gn_int (gl_more gn_int (gl_one gn_int)))) (gl_more (ge_tup (gl_more gn_int (gl_more gn_int (gl_one gn_int)))) (gl_more (ge_tup (gl_more gn_int (gl_more gn_int (gl_more gn_int (gl_one gn_int))))) (gl_more (ge_tup (gl_more gn_int (gl_more gn_int (gl_one gn_int)))) (gl_more (ge_tup (gl_more gn_int (gl_one gn_int))) (gl_more (ge_tup (gl_more gn_int (gl_one gn_int))) (gl_more (ge_tup (gl_more gn_int (gl_one gn_int))) (gl_more (ge_tup (gl_more gn_int (gl_one gn_int))) (gl_more (ge_tup (gl_more gn_int (gl_one gn_int))) (gl_more (ge_tup (gl_one gn_int)) (gl_one (ge_tup gl_nil)))))))))))))))) (by rfl) (.inl rfl))
 (gs_cons (gs_asg (i := 5) (m := true) hnd (by rfl) (by first | exact Or.inl rfl | exact Or.inr rfl) (ge_bin (gv 5) (ge_lst (gl_more (gk_01 (gv 3) (ge_neg gn_int)) (gl_more (ge_bin (gv 3) (ge_tup (gl_one (ge_bin (ge_idx (fun _ _ => rfl) (gv 3) (ge_neg gn_int)) gn_int)))) (gl_more (ge_bin (gv 3) (ge_tup (gl_one gn_int))) (gl_more (gc_list (by rfl) (gl_one (gv 3)) (by rfl) (by rfl) (by rfl) B.list) (gl_more (ge_rev (gv 3)) (gl_more (ge_bin (gv 3) (gk_10 (gv 3) (ge_neg gn_int))) (gl_more gn_non (gl_more gn_int (gl_more (ge_tup (gl_one gn_bl)) (gl_more (ge_tup (gl_more gn_int (gl_one gn_int))) (gl_more (ge_tup (gl_more gn_int (gl_one gn_str))) (gl_more (ge_rgT (by rfl) (by rfl) B.tuple (by rfl) B.range gn_int gn_int (by rfl) (by rfl) (by rfl) (by rfl)) (gl_one (ge_rgT (by rfl) (by rfl) B.tuple (by rfl) B.range gn_int gn_int (by rfl) (by rfl) (by rfl) (by rfl))))))))))))))))) (by rfl) (.inl rfl))
 (gs_cons (gs_for (t := (.name 6)) po (by rfl) (gi_rng1 (by rfl) B.range (by rfl) (gl_one gn_int) (sl_cons sl_nil)) (gg_name (i := 6) hnd (by rfl) (by first | exact Or.inl rfl | exact Or.inr rfl) (by first | exact Or.inl rfl | exact Or.inr rfl))
 (gs_cons (gs_asg (i := 10) (m := false) hnd (by rfl) (by first | exact Or.inl rfl | exact Or.inr rfl) (ge_call (by exact c_law_take.cald) (hr.mono (by decide)) tk (by rfl) (gl_more (gv 1) (gl_one (gc_len (by rfl) (gl_one (gv 3)) (by rfl) (by rfl) (by rfl) B.len))) (by decide) (by rfl) (by rfl)) (by rfl) (.inl rfl))
 (gs_cons (gs_expr (gm_append (gv 5) (gl_one (ge_bin (ge_bin (gk_01 (gv 3) (gv 10)) (ge_tup (gl_one (ge_bin (ge_idx (fun _ _ => rfl) (gv 3) (gv 10)) (ge_idx (fun _ _ => rfl) (ge_lst (gl_more gn_int (gl_more (ge_neg gn_int) (gl_more gn_int (gl_more (ge_idx (fun _ _ => rfl) (gv 3) gn_int) (gl_one gn_int)))))) (ge_call (by exact c_law_take.cald) (hr.mono (by decide)) tk (by rfl) (gl_more (gv 1) (gl_one gn_int)) (by decide) (by rfl) (by rfl))))))) (gk_10 (gv 3) (ge_bin (gv 10) gn_int)))) (by rfl) (by rfl) (by rfl) (by rfl) (by rfl)) (by rfl))
 (gs_cons (gs_asg (i := 11) (m := true) hnd (by rfl) (by first | exact Or.inl rfl | exact Or.inr rfl) (ge_lst gl_nil) (by rfl) (.inl rfl))
 (gs_cons (gs_for (t := (.name 12)) po (by rfl) (gi_rng1 (by rfl) B.range (by rfl) (gl_one (ge_bin gn_int (ge_call (by exact c_law_take.cald) (hr.mono (by decide)) tk (by rfl) (gl_more (gv 1) (gl_one gn_int)) (by decide) (by rfl) (by rfl)))) (sl_cons sl_nil)) (gg_name (i := 12) hnd (by rfl) (by first | exact Or.inl rfl | exact Or.inr rfl) (by first | exact Or.inl rfl | exact Or.inr rfl))
 (gs_cons (gs_expr (gm_append (gv 11) (gl_one (ge_bin (ge_bin (ge_if (gb_cmp hu (by rfl) (gc_len (by rfl) (gl_one (gv 11)) (by rfl) (by rfl) (by rfl) B.len) gn_int) (ge_idx (fun _ _ => rfl) (gv 11) (ge_neg gn_int)) gn_int) gn_int) (ge_call (by exact c_law_take.cald) (hr.mono (by decide)) tk (by rfl) (gl_more (gv 1) (gl_one gn_int)) (by decide) (by rfl) (by rfl)))) (by rfl) (by rfl) (by rfl) (by rfl) (by rfl)) (by rfl))
 gs_nil) (fun _ => rfl))
 (gs_cons (gs_expr (gm_append (gv 5) (gl_one (gc_tuple (by rfl) (gl_one (gv 11)) (by rfl) (by rfl) (by rfl) B.tuple)) (by rfl) (by rfl) (by rfl) (by rfl) (by rfl)) (by rfl))
 gs_nil))))) (fun _ => rfl))
 (gs_cons (gs_for (t := (.name 7)) po (by rfl) (gi_seq (gv 5)) (gg_name (i := 7) hnd (by rfl) (by first | exact Or.inl rfl | exact Or.inr rfl) (by first | exact Or.inl rfl | exact Or.inr rfl))
 (gs_cons (gs_if (gb_not (gb_truth (ge_call (by exact c_law_is_row.cald) (hr.mono (by decide)) tk (by rfl) (gl_one (gv 7)) (by decide) (by rfl) (by rfl)) (fun _ => rfl)))
 (gs_cons (gs_if (gb_or (gb_cmp hu (by rfl) (ge_idx (fun _ _ => rfl) (ge_call (by exact c_law_told.cald) (hr.mono (by decide)) tk (by rfl) (gl_more gn_int (gl_one (gv 7))) (by decide) (by rfl) (by rfl)) gn_int) gn_str) (gb_or1 (gb_cmp hu (by rfl) (ge_idx (fun _ _ => rfl) (ge_call (by exact c_law_told.cald) (hr.mono (by decide)) tk (by rfl) (gl_more gn_int (gl_one (gv 7))) (by decide) (by rfl) (by rfl)) gn_int) gn_str))).pt
 (gs_cons (gs_ret gn_bl)
 gs_nil)
 gs_nil)
 gs_nil)
 (gs_cons (gs_asg (i := 13) (m := false) hnd (by rfl) (by first | exact Or.inl rfl | exact Or.inr rfl) (ge_call (by exact c_law_broken.cald) (hr.mono (by decide)) tk (by rfl) (gl_one (gv 7)) (by decide) (by rfl) (by rfl)) (by rfl) (.inl rfl))
 (gs_cons (gs_if (gb_not (gb_truth (ge_call (by exact c_law_same.cald) (hr.mono (by decide)) tk (by rfl) (gl_more (ge_call (by exact c_law_told.cald) (hr.mono (by decide)) tk (by rfl) (gl_more gn_int (gl_one (gv 7))) (by decide) (by rfl) (by rfl)) (gl_one (ge_tup (gl_more gn_str (gl_one (gv 13)))))) (by decide) (by rfl) (by rfl)) (fun _ => rfl)))
 (gs_cons (gs_ret gn_bl)
 gs_nil)
 gs_nil)
 (gs_cons (gs_asg (i := 14) (m := false) hnd (by rfl) (by first | exact Or.inl rfl | exact Or.inr rfl) (ge_tup (gl_more gn_str (gl_one gn_str))) (by rfl) (.inl rfl))
 (gs_cons (gs_if (gb_cmp hu (by rfl) (gv 13) gn_non)
 (gs_cons (gs_asg (i := 15) (m := false) hnd (by rfl) (by first | exact Or.inl rfl | exact Or.inr rfl) (ge_call (by exact c_law_class_of.cald) (hr.mono (by decide)) tk (by rfl) (gl_one (gv 7)) (by decide) (by rfl) (by rfl)) (by rfl) (.inl rfl))
 (gs_cons (gs_asg (i := 14) (m := false) hnd (by rfl) (by first | exact Or.inl rfl | exact Or.inr rfl) (ge_if (gb_truth (ge_call (by exact c_law_is_class.cald) (hr.mono (by decide)) tk (by rfl) (gl_one (gv 15)) (by decide) (by rfl) (by rfl)) (fun _ => rfl)) (ge_tup (gl_more gn_str (gl_one (gv 15)))) (ge_tup (gl_more gn_str (gl_one gn_str)))) (by rfl) (.inl rfl))
 gs_nil))
 gs_nil)
 (gs_cons (gs_if (gb_not (gb_truth (ge_call (by exact c_law_same.cald) (hr.mono (by decide)) tk (by rfl) (gl_more (ge_call (by exact c_law_told.cald) (hr.mono (by decide)) tk (by rfl) (gl_more gn_int (gl_one (gv 7))) (by decide) (by rfl) (by rfl)) (gl_one (gv 14))) (by decide) (by rfl) (by rfl)) (fun _ => rfl)))
 (gs_cons (gs_ret gn_bl)
 gs_nil)
 gs_nil)
 gs_nil))))))
 gs_nil) (fun _ => rfl))
 (gs_cons (gs_for (t := (.name 8)) po (by rfl) (gi_seq (ge_lst (gl_more gn_non (gl_more (ge_tup gl_nil) (gl_more (ge_tup (gl_more gn_int (gl_one gn_int))) (gl_more (ge_lst (gl_more gn_int (gl_one gn_int))) (gl_more (ge_tup (gl_more gn_int (gl_one gn_int))) (gl_more gn_int (gl_more (ge_tup (gl_one gn_int)) (gl_one (ge_tup (gl_more gn_int (gl_one gn_int))))))))))))) (gg_name (i := 8) hnd (by rfl) (by first | exact Or.inl rfl | exact Or.inr rfl) (by first | exact Or.inl rfl | exact Or.inr rfl))
 (gs_cons (gs_if (gb_cmp hu (by rfl) (ge_idx (fun _ _ => rfl) (ge_call (by exact c_law_told.cald) (hr.mono (by decide)) tk (by rfl) (gl_more gn_int (gl_one (gv 8))) (by decide) (by rfl) (by rfl)) gn_int) gn_str)
 (gs_cons (gs_ret gn_bl)
 gs_nil)
 gs_nil)
 gs_nil) (fun _ => rfl))
 (gs_cons (gs_ret gn_bl)
 gs_nil))))))))))))
local macro_rules | `(tactic| wtm_at "mpl") => `(tactic| first | (simp only [List.length_append, List.length_map, List.length_cons, List.length_nil, List.length_take, List.length_drop, List.length_reverse, List.length_replicate]; omega))
local macro_rules | `(tactic| wtm_at "mpA") => `(tactic| first | ((with_reducible refine g_el ?_); (first | ((with_reducible refine g_av ?_); (first | (with_reducible refine e_con ?_) | ((with_reducible apply e_var); rfl) | ((with_reducible apply e_varC); rfl) | (with_reducible refine e_args ?_) | (with_reducible refine e_bin ?_) | (with_reducible refine e_cmp ?_) | (with_reducible refine e_idx ?_) | (with_reducible refine e_ok ?_) | (with_reducible refine e_iff ?_) | (with_reducible refine e_tup ?_) | (with_reducible refine e_lst ?_) | (with_reducible refine e_and ?_) | (with_reducible refine e_or ?_) | (with_reducible refine e_not ?_) | (with_reducible refine e_chain ?_) | (with_reducible refine e_neg ?_) | (with_reducible refine e_isi ?_) | (with_reducible refine e_slice ?_) | (with_reducible refine e_inD ?_) | (with_reducible refine e_meth ?_) | (with_reducible refine e_comp ?_) | (with_reducible refine e_callV ?_) | (with_reducible refine e_rev ?_) | ((with_reducible apply e_varS); rfl))) | ((with_reducible refine g_fl ?_); (first | (with_reducible refine e_seq ?_) | (with_reducible refine e_asg ?_) | (with_reducible refine e_ok ?_) | (with_reducible refine e_skip ?_) | (with_reducible refine e_ifS ?_) | (with_reducible refine e_expr ?_) | (with_reducible refine e_ret ?_) | (with_reducible refine e_for ?_) | (with_reducible refine e_retN ?_) | (with_reducible refine e_brk ?_) | (with_reducible refine e_cont ?_) | (with_reducible refine e_raise ?_) | (with_reducible refine e_tryS ?_) | (with_reducible refine e_asgT ?_) | (with_reducible refine e_par2 ?_) | (with_reducible refine e_par3 ?_) | (with_reducible refine e_setI ?_) | (with_reducible refine e_newD ?_) | (with_reducible refine e_putD ?_) | ((with_reducible apply e_aug); rfl))) | ((with_reducible refine g_ls ?_); (first | (with_reducible refine l_cons ?_) | (with_reducible refine l_nil ?_) | (with_reducible refine e_ok ?_))) | ((with_reducible refine g_bl ?_); (first | (with_reducible refine b_sB ?_) | (with_reducible refine b_and ?_) | (with_reducible refine b_or ?_) | (with_reducible refine b_not ?_) | (with_reducible refine b_yes ?_) | (with_reducible refine e_ok ?_))) | (with_reducible refine i_seq ?_) | (with_reducible refine i_rng ?_) | (with_reducible refine i_itm ?_) | (with_reducible refine sp_0 ?_) | (with_reducible refine sp_1 ?_) | (with_reducible refine e_ok ?_))) | ((with_reducible refine g_fk ?_); (first | (with_reducible refine k_next ?_) | (with_reducible refine k_ret ?_) | (with_reducible refine k_brk ?_) | (with_reducible refine k_cont ?_))) | ((with_reducible refine g_st ?_); (first | (with_reducible refine s_d ?_) | (with_reducible refine s_c ?_) | (with_reducible refine s_f ?_) | (with_reducible refine s_s ?_))) | ((with_reducible refine g_asg ?_); (first | (with_reducible refine a_d ?_) | (with_reducible refine a_c ?_) | (with_reducible refine a_f ?_) | (with_reducible refine a_m ?_))) | ((with_reducible refine g_asp ?_); (first | (with_reducible refine ap_d ?_) | (with_reducible refine ap_c ?_) | (with_reducible refine ap_f ?_) | (with_reducible refine ap_m ?_))))
local macro_rules | `(tactic| wtm_at "mp0") => `(tactic| first | ((with_reducible refine g_el ?_); (first | ((with_reducible refine g_bin ?_); (first | (with_reducible refine p_add ?_) | (with_reducible refine p_sub ?_) | ((with_reducible apply p_mul); first | (exact mul_l (by omega) (by omega)) | (exact mul_r (by omega) (by omega))) | (with_reducible refine p_div (by omega) (div_s (by omega) (by omega)) ?_) | (with_reducible refine p_mod (by omega) ?_))) | ((with_reducible refine g_cmp ?_); (first | (with_reducible refine p_lt ?_) | (with_reducible refine p_le ?_) | (with_reducible refine p_gt ?_) | (with_reducible refine p_ge ?_) | (with_reducible refine p_eqI ?_) | (with_reducible refine p_neI ?_) | (with_reducible refine p_isN ?_) | (with_reducible refine p_notN ?_) | ((with_reducible apply p_eq); (first | rfl | (exact ok_str (by decide +kernel)) | (decide +kernel)); (first | rfl | (exact ok_str (by decide +kernel)) | (decide +kernel))) | ((with_reducible apply p_ne); (first | rfl | (exact ok_str (by decide +kernel)) | (decide +kernel)); (first | rfl | (exact ok_str (by decide +kernel)) | (decide +kernel))))) | (with_reducible refine p_neg ?_) | (with_reducible refine p_int ?_) | (with_reducible refine p_abs ?_) | (with_reducible refine p_max ?_) | (with_reducible refine p_min ?_) | (with_reducible refine p_max2 ?_) | (with_reducible refine p_min2 ?_) | (with_reducible refine p_lenT ?_) | (with_reducible refine p_lenL ?_) | (with_reducible refine p_revT ?_) | (with_reducible refine p_iadd ?_) | (with_reducible refine cut_S ?_) | (with_reducible refine cut_L ?_) | (with_reducible refine cut_F ?_) | (with_reducible refine cut_T ?_) | ((with_reducible apply p_isiT); rfl; decide +kernel) | ((with_reducible apply p_isiF); rfl; decide +kernel) | ((with_reducible apply p_all); rfl) | ((with_reducible apply p_any); rfl) | ((with_reducible apply p_idx); rfl) | ((with_reducible apply e_guard); rfl))) | ((with_reducible refine g_cond ?_); (first | (with_reducible refine e_condT ?_) | (with_reducible refine e_condF ?_) | ((with_reducible apply e_condTe); (first | rfl | (decide +kernel))) | ((with_reducible apply e_condFe); (first | rfl | (decide +kernel))) | ((with_reducible apply e_condPT); omega) | ((with_reducible apply e_condPF); omega) | ((with_reducible apply e_condNT); omega) | ((with_reducible apply e_condNF); omega))) | ((with_reducible refine g_opt ?_); (first | (with_reducible refine o_bl ?_) | (with_reducible refine o_int ?_) | (with_reducible refine o_b ?_) | (with_reducible refine o_lt ?_) | (with_reducible refine o_le ?_) | (with_reducible refine o_itF ?_) | (with_reducible refine o_itL ?_) | (with_reducible refine o_itT ?_) | ((with_reducible apply o_rngN); (first | (focus (simp; done)) | omega)) | (with_reducible refine o_rngI (by omega) (by omega) ?_) | (with_reducible refine o_rng2 (by omega) (by omega) ?_) | ((with_reducible apply o_eq); rfl))) | (with_reducible exact r_d) | ((with_reducible refine Eq.trans r_d ?_); rfl) | (with_reducible exact r_x) | (with_reducible exact r_n) | (with_reducible exact r_c) | ((with_reducible apply t_k); rfl; (first | (focus (simp; done)) | omega)) | (with_reducible refine gk_L ?_) | ((with_reducible apply gk_t); rfl) | ((with_reducible apply m_appL); (first | (focus (simp; done)) | omega)) | ((with_reducible apply m_extL); (first | (focus (simp; done)) | omega)) | ((with_reducible apply pick_fn); rfl) | ((with_reducible apply st_d); rfl; rfl) | (with_reducible refine pk_i ?_) | ((with_reducible apply c_d); (first | (focus (simp; done)) | omega)) | ((with_reducible apply h_some); rfl) | ((with_reducible apply g_d); rfl))
local macro_rules | `(tactic| wtm_at "mp1") => `(tactic| first | ((with_reducible refine g_el ?_); (first | ((with_reducible refine g_bin ?_); (first | (with_reducible refine p_add ?_) | (with_reducible refine p_sub ?_) | ((with_reducible apply p_mul); first | (exact mul_l (by omega) (by omega)) | (exact mul_r (by omega) (by omega))) | (with_reducible refine p_div (by omega) (div_s (by omega) (by omega)) ?_) | (with_reducible refine p_mod (by omega) ?_))) | ((with_reducible refine g_cmp ?_); (first | (with_reducible refine p_lt ?_) | (with_reducible refine p_le ?_) | (with_reducible refine p_gt ?_) | (with_reducible refine p_ge ?_) | (with_reducible refine p_eqI ?_) | (with_reducible refine p_neI ?_) | (with_reducible refine p_isN ?_) | (with_reducible refine p_notN ?_) | ((with_reducible apply p_eq); (first | rfl | (exact ok_str (by decide +kernel)) | (decide +kernel)); (first | rfl | (exact ok_str (by decide +kernel)) | (decide +kernel))) | ((with_reducible apply p_ne); (first | rfl | (exact ok_str (by decide +kernel)) | (decide +kernel)); (first | rfl | (exact ok_str (by decide +kernel)) | (decide +kernel))))) | (with_reducible refine p_neg ?_) | (with_reducible refine p_int ?_) | (with_reducible refine p_abs ?_) | (with_reducible refine p_max ?_) | (with_reducible refine p_min ?_) | (with_reducible refine p_max2 ?_) | (with_reducible refine p_min2 ?_) | (with_reducible refine p_lenT ?_) | (with_reducible refine p_lenL ?_) | (with_reducible refine p_revT ?_) | (with_reducible refine p_iadd ?_) | (with_reducible refine cut_S ?_) | (with_reducible refine cut_L ?_) | (with_reducible refine cut_F ?_) | (with_reducible refine cut_T ?_) | ((with_reducible apply p_isiT); rfl; decide +kernel) | ((with_reducible apply p_isiF); rfl; decide +kernel) | ((with_reducible apply p_all); rfl) | ((with_reducible apply p_any); rfl) | ((with_reducible apply p_idx); rfl) | ((with_reducible apply c_cons); rfl; rfl) | ((with_reducible apply c_nil); rfl) | ((with_reducible apply e_guard); rfl))) | ((with_reducible refine g_cond ?_); (first | (with_reducible refine e_condT ?_) | (with_reducible refine e_condF ?_) | ((with_reducible apply e_condTe); (first | rfl | (decide +kernel))) | ((with_reducible apply e_condFe); (first | rfl | (decide +kernel))) | ((with_reducible apply e_condPT); omega) | ((with_reducible apply e_condPF); omega) | ((with_reducible apply e_condNT); omega) | ((with_reducible apply e_condNF); omega))) | ((with_reducible refine g_opt ?_); (first | (with_reducible refine o_bl ?_) | (with_reducible refine o_int ?_) | (with_reducible refine o_b ?_) | (with_reducible refine o_lt ?_) | (with_reducible refine o_le ?_) | (with_reducible refine o_itF ?_) | (with_reducible refine o_itL ?_) | (with_reducible refine o_itT ?_) | ((with_reducible apply o_rngN); (first | (focus (simp; done)) | omega)) | (with_reducible refine o_rngI (by omega) (by omega) ?_) | (with_reducible refine o_rng2 (by omega) (by omega) ?_) | ((with_reducible apply o_eq); rfl))) | (with_reducible exact r_d) | ((with_reducible refine Eq.trans r_d ?_); rfl) | (with_reducible exact r_x) | (with_reducible exact r_n) | (with_reducible exact r_c) | ((with_reducible apply t_k); rfl; (first | (focus (simp; done)) | omega)) | (with_reducible refine gk_L ?_) | ((with_reducible apply gk_t); rfl) | ((with_reducible apply m_appL); (first | (focus (simp; done)) | omega)) | ((with_reducible apply m_extL); (first | (focus (simp; done)) | omega)) | ((with_reducible apply pick_fn); rfl) | ((with_reducible apply st_d); rfl; rfl) | (with_reducible refine pk_i ?_) | ((with_reducible apply c_d); (first | (focus (simp; done)) | omega)) | ((with_reducible apply h_some); rfl) | ((with_reducible apply g_d); rfl))
local macro_rules | `(tactic| wtm_at "mp2") => `(tactic| first | ((with_reducible refine g_el ?_); (first | ((with_reducible refine g_bin ?_); (first | (with_reducible refine p_add ?_) | (with_reducible refine p_sub ?_) | ((with_reducible apply p_mul); first | (exact mul_l (by omega) (by omega)) | (exact mul_r (by omega) (by omega))) | (with_reducible refine p_div (by omega) (div_s (by omega) (by omega)) ?_) | (with_reducible refine p_mod (by omega) ?_))) | ((with_reducible refine g_cmp ?_); (first | (with_reducible refine p_lt ?_) | (with_reducible refine p_le ?_) | (with_reducible refine p_gt ?_) | (with_reducible refine p_ge ?_) | (with_reducible refine p_eqI ?_) | (with_reducible refine p_neI ?_) | (with_reducible refine p_isN ?_) | (with_reducible refine p_notN ?_) | ((with_reducible apply p_eq); (first | rfl | (exact ok_str (by decide +kernel)) | (decide +kernel)); (first | rfl | (exact ok_str (by decide +kernel)) | (decide +kernel))) | ((with_reducible apply p_ne); (first | rfl | (exact ok_str (by decide +kernel)) | (decide +kernel)); (first | rfl | (exact ok_str (by decide +kernel)) | (decide +kernel))))) | (with_reducible refine p_neg ?_) | (with_reducible refine p_int ?_) | (with_reducible refine p_abs ?_) | (with_reducible refine p_max ?_) | (with_reducible refine p_min ?_) | (with_reducible refine p_max2 ?_) | (with_reducible refine p_min2 ?_) | (with_reducible refine p_lenT ?_) | (with_reducible refine p_lenL ?_) | (with_reducible refine p_revT ?_) | (with_reducible refine p_iadd ?_) | (with_reducible refine cut_S ?_) | (with_reducible refine cut_L ?_) | (with_reducible refine cut_F ?_) | (with_reducible refine cut_T ?_) | ((with_reducible apply p_isiT); rfl; decide +kernel) | ((with_reducible apply p_isiF); rfl; decide +kernel) | ((with_reducible apply p_all); rfl) | ((with_reducible apply p_any); rfl) | ((with_reducible apply p_idx); rfl) | ((with_reducible apply c_cons); rfl; rfl) | ((with_reducible apply c_nil); rfl) | ((with_reducible apply e_guard); rfl))) | ((with_reducible refine g_cond ?_); (first | (with_reducible refine e_condT ?_) | (with_reducible refine e_condF ?_) | ((with_reducible apply e_condTe); (first | rfl | (decide +kernel))) | ((with_reducible apply e_condFe); (first | rfl | (decide +kernel))) | ((with_reducible apply e_condPT); omega) | ((with_reducible apply e_condPF); omega) | ((with_reducible apply e_condNT); omega) | ((with_reducible apply e_condNF); omega) | (with_reducible refine e_condP (fun _ => ?_) (fun _ => ?_)) | (with_reducible refine e_condN (fun _ => ?_) (fun _ => ?_)))) | ((with_reducible refine g_opt ?_); (first | (with_reducible refine o_bl ?_) | (with_reducible refine o_int ?_) | (with_reducible refine o_b ?_) | (with_reducible refine o_lt ?_) | (with_reducible refine o_le ?_) | (with_reducible refine o_itF ?_) | (with_reducible refine o_itL ?_) | (with_reducible refine o_itT ?_) | ((with_reducible apply o_rngN); (first | (focus (simp; done)) | omega)) | (with_reducible refine o_rngI (by omega) (by omega) ?_) | (with_reducible refine o_rng2 (by omega) (by omega) ?_) | ((with_reducible apply o_eq); rfl))) | (with_reducible exact r_d) | ((with_reducible refine Eq.trans r_d ?_); rfl) | (with_reducible exact r_x) | (with_reducible exact r_n) | (with_reducible exact r_c) | ((with_reducible apply t_k); rfl; (first | (focus (simp; done)) | omega)) | (with_reducible refine gk_L ?_) | ((with_reducible apply gk_t); rfl) | ((with_reducible apply m_appL); (first | (focus (simp; done)) | omega)) | ((with_reducible apply m_extL); (first | (focus (simp; done)) | omega)) | ((with_reducible apply pick_fn); rfl) | ((with_reducible apply st_d); rfl; rfl) | (with_reducible refine pk_i ?_) | ((with_reducible apply c_d); (first | (focus (simp; done)) | omega)) | ((with_reducible apply h_some); rfl) | ((with_reducible apply g_d); rfl))
local macro_rules | `(tactic| wtm_at "mp3") => `(tactic| first | ((with_reducible refine g_el ?_); (first | ((with_reducible refine g_bin ?_); (first | (with_reducible refine p_add ?_) | (with_reducible refine p_sub ?_) | ((with_reducible apply p_mul); first | (exact mul_l (by omega) (by omega)) | (exact mul_r (by omega) (by omega))) | (with_reducible refine p_div (by omega) (div_s (by omega) (by omega)) ?_) | (with_reducible refine p_mod (by omega) ?_))) | ((with_reducible refine g_cmp ?_); (first | (with_reducible refine p_lt ?_) | (with_reducible refine p_le ?_) | (with_reducible refine p_gt ?_) | (with_reducible refine p_ge ?_) | (with_reducible refine p_eqI ?_) | (with_reducible refine p_neI ?_) | (with_reducible refine p_isN ?_) | (with_reducible refine p_notN ?_) | ((with_reducible apply p_eq); (first | rfl | (exact ok_str (by decide +kernel)) | (decide +kernel)); (first | rfl | (exact ok_str (by decide +kernel)) | (decide +kernel))) | ((with_reducible apply p_ne); (first | rfl | (exact ok_str (by decide +kernel)) | (decide +kernel)); (first | rfl | (exact ok_str (by decide +kernel)) | (decide +kernel))))) | (with_reducible refine p_neg ?_) | (with_reducible refine p_int ?_) | (with_reducible refine p_abs ?_) | (with_reducible refine p_max ?_) | (with_reducible refine p_min ?_) | (with_reducible refine p_max2 ?_) | (with_reducible refine p_min2 ?_) | (with_reducible refine p_lenT ?_) | (with_reducible refine p_lenL ?_) | (with_reducible refine p_revT ?_) | (with_reducible refine p_iadd ?_) | (with_reducible refine cut_S ?_) | (with_reducible refine cut_L ?_) | (with_reducible refine cut_F ?_) | (with_reducible refine cut_T ?_) | ((with_reducible apply p_isiT); rfl; decide +kernel) | ((with_reducible apply p_isiF); rfl; decide +kernel) | ((with_reducible apply p_all); rfl) | ((with_reducible apply p_any); rfl) | ((with_reducible apply p_idx); rfl) | ((with_reducible apply c_cons); rfl; rfl) | ((with_reducible apply c_nil); rfl) | ((with_reducible apply e_guard); rfl) | ((with_reducible apply f_cons); rfl; rfl) | ((with_reducible apply f_nil); rfl))) | ((with_reducible refine g_cond ?_); (first | (with_reducible refine e_condT ?_) | (with_reducible refine e_condF ?_) | ((with_reducible apply e_condTe); (first | rfl | (decide +kernel))) | ((with_reducible apply e_condFe); (first | rfl | (decide +kernel))) | ((with_reducible apply e_condPT); omega) | ((with_reducible apply e_condPF); omega) | ((with_reducible apply e_condNT); omega) | ((with_reducible apply e_condNF); omega))) | ((with_reducible refine g_opt ?_); (first | (with_reducible refine o_bl ?_) | (with_reducible refine o_int ?_) | (with_reducible refine o_b ?_) | (with_reducible refine o_lt ?_) | (with_reducible refine o_le ?_) | (with_reducible refine o_itF ?_) | (with_reducible refine o_itL ?_) | (with_reducible refine o_itT ?_) | ((with_reducible apply o_rngN); (first | (focus (simp; done)) | omega)) | (with_reducible refine o_rngI (by omega) (by omega) ?_) | (with_reducible refine o_rng2 (by omega) (by omega) ?_) | ((with_reducible apply o_eq); rfl))) | (with_reducible exact r_d) | ((with_reducible refine Eq.trans r_d ?_); rfl) | (with_reducible exact r_x) | (with_reducible exact r_n) | (with_reducible exact r_c) | ((with_reducible apply t_k); rfl; (first | (focus (simp; done)) | omega)) | (with_reducible refine gk_L ?_) | ((with_reducible apply gk_t); rfl) | ((with_reducible apply m_appL); (first | (focus (simp; done)) | omega)) | ((with_reducible apply m_extL); (first | (focus (simp; done)) | omega)) | ((with_reducible apply pick_fn); rfl) | ((with_reducible apply st_d); rfl; rfl) | (with_reducible refine pk_i ?_) | ((with_reducible apply c_d); (first | (focus (simp; done)) | omega)) | ((with_reducible apply h_some); rfl) | ((with_reducible apply g_d); rfl) | (with_reducible refine fk_n ?_) | (with_reducible refine fk_r ?_) | (with_reducible refine fk_c ?_) | (with_reducible refine fk_b ?_))

theorem gcd_step {a b : Int} (ha : 0 ≤ a) (hb : 0 < b) : Int.gcd b (a % b) = Int.gcd a b := by
  obtain ⟨m, rfl⟩ := Int.eq_ofNat_of_zero_le ha
  obtain ⟨n, rfl⟩ := Int.eq_ofNat_of_zero_le (Int.le_of_lt hb)
  show Nat.gcd n (m % n) = Nat.gcd m n
  rw [Nat.gcd_comm n, ← Nat.gcd_rec, Nat.gcd_comm]
theorem gcd_ok {a b : Int} {M : Mem} (hb : b.natAbs < 2 ^ 199) : Fgreatest_common [.d (.int a), .d (.int b)] M = .ok (.d (.int (Int.gcd a b))) M := by
  unfold Fgreatest_common
  refine e_fn rfl ?_
  unfold Tgreatest_common
  repeat' (first | (wtm_at "mpA") | (wtm_at "mp1"))
  refine e_while (fun env M' => M' = M ∧ ∃ x y : Int, env = [some (.d (.int x)), some (.d (.int y))] ∧ 0 ≤ x ∧ 0 ≤ y ∧ Int.gcd x y = Int.gcd a b) (fun env M' => M' = M ∧ env = [some (.d (.int (Int.gcd a b))), some (.d (.int 0))])
    (fun env _ => intAt env 1) ⟨rfl, a.natAbs, b.natAbs, rfl, by omega, by omega, by simp [Int.gcd]⟩ (fun env M' h => ?_) (by show (b.natAbs : Int).natAbs < 2 ^ 200; omega) (fun env M' h => ?_)
  · obtain ⟨rfl, x, y, rfl, hx, hy, hg⟩ := h
    by_cases h0 : y = 0
    · subst h0
      refine .inl ⟨el_start ?_, rfl, ?_⟩
      · repeat' (first | (wtm_at "mpA") | (wtm_at "mp1"))
        rfl
      · rw [← hg, Int.gcd_zero_right]
        rw [show ((x.natAbs : Nat) : Int) = x by omega]
    · refine .inr ⟨el_start ?_, [some (.d (.int y)), some (.d (.int (x % y)))], M', el_start ?_, ⟨rfl, y, x % y, rfl, hy, Int.emod_nonneg x h0, by rw [gcd_step hx (by omega)]; exact hg⟩, ?_⟩
      · repeat' (first | (wtm_at "mpA") | (wtm_at "mp1"))
        simp [h0]
      · repeat' (first | (wtm_at "mpA") | (wtm_at "mp1"))
        rfl
      · show (x % y).natAbs < y.natAbs
        have h1 := Int.emod_nonneg x h0
        have h2 := Int.emod_lt_of_pos x (show 0 < y by omega)
        omega
  · obtain ⟨rfl, rfl⟩ := h
    repeat' (first | (wtm_at "mpA") | (wtm_at "mp1"))
theorem common_ok {a b : Int} {M : Mem} (ha : 0 ≤ a) (hb0 : 0 ≤ b) (hb : b.natAbs < 2 ^ 199) : F_law_common [.d (.int a), .d (.int b)] M = .ok (.d (.int (Int.gcd a b))) M := by
  unfold F_law_common
  refine e_fn rfl ?_
  unfold T_law_common
  repeat' (first | (wtm_at "mpA") | (wtm_at "mp1"))
  refine e_while (fun env M' => M' = M ∧ ∃ x y : Int, env = [some (.d (.int x)), some (.d (.int y))] ∧ 0 ≤ x ∧ 0 ≤ y ∧ Int.gcd x y = Int.gcd a b) (fun env M' => M' = M ∧ env = [some (.d (.int (Int.gcd a b))), some (.d (.int 0))])
    (fun env _ => intAt env 1) ⟨rfl, a, b, rfl, ha, hb0, rfl⟩ (fun env M' h => ?_) (by show b.natAbs < 2 ^ 200; omega) (fun env M' h => ?_)
  · obtain ⟨rfl, x, y, rfl, hx, hy, hg⟩ := h
    by_cases h0 : y = 0
    · subst h0
      refine .inl ⟨el_start ?_, rfl, ?_⟩
      · repeat' (first | (wtm_at "mpA") | (wtm_at "mp1"))
        rfl
      · rw [← hg, Int.gcd_zero_right]
        rw [show ((x.natAbs : Nat) : Int) = x by omega]
    · refine .inr ⟨el_start ?_, [some (.d (.int y)), some (.d (.int (x % y)))], M', el_start ?_, ⟨rfl, y, x % y, rfl, hy, Int.emod_nonneg x h0, by rw [gcd_step hx (by omega)]; exact hg⟩, ?_⟩
      · repeat' (first | (wtm_at "mpA") | (wtm_at "mp1"))
        simp [h0]
      · repeat' (first | (wtm_at "mpA") | (wtm_at "mp1"))
        rfl
      · show (x % y).natAbs < y.natAbs
        have h1 := Int.emod_nonneg x h0
        have h2 := Int.emod_lt_of_pos x (show 0 < y by omega)
        omega
  · obtain ⟨rfl, rfl⟩ := h
    repeat' (first | (wtm_at "mpA") | (wtm_at "mp1"))

def stepsL (x : Int) (r : List Int) : List Int := r.foldl (fun s b => s ++ [(Int.gcd (lastI s) b : Int)]) [x]
abbrev Small (x : Int) : Prop := 0 ≤ x ∧ x < 4611686018427387904
theorem small_last {s : List Int} (h : ∀ x ∈ s, Small x) : Small (lastI s) := by
  unfold lastI
  cases e : s.getLast? with
  | none => exact ⟨by decide, by decide⟩
  | some y => exact h y (List.mem_of_getLast? e)
theorem small_gcd {a b : Int} (ha : Small a) (hb : Small b) : Small (Int.gcd a b : Int) := by
  refine ⟨by omega, ?_⟩
  by_cases h : a = 0
  · subst h
    rw [Int.gcd_zero_left]
    omega
  · have := Int.gcd_le_natAbs_left b (h)
    omega
theorem steps_ok {x : Int} {r : List Int} {M : Mem} (hx : Small x) (hr : ∀ b ∈ r, Small b) (hl : r.length ≤ 100000) : Fsteps_of [.d (ti (x :: r))] M = .ok (.fr ((stepsL x r).map .int)) M := by
  unfold Fsteps_of
  refine e_fn rfl ?_
  unfold Tsteps_of
  repeat' (first | (wtm_at "mpA") | (with_reducible apply p_idx idx_head) | (with_reducible refine cut_tail ?_) | (wtm_at "mp1"))
  refine e_foldI (fun i (s : List Int) env M' => s ≠ [] ∧ (∀ y ∈ s, Small y) ∧ s.length = i + 1 ∧ M' = M ++ [some (.l (s.map .int))] ∧ ∃ o, env = [some (.d (ti (x :: r))), some (.cell M.length), o]) (fun s d => match d with | .int b => s ++ [(Int.gcd (lastI s) b : Int)] | _ => s) [x]
    ⟨by simp, by simpa using hx, rfl, rfl, _, rfl⟩ (fun i d hd s env M' h => ?_) (fun env M' h => ?_)
  · rw [List.getElem?_map] at hd
    cases hb0 : r[i]? with
    | none => rw [hb0] at hd; cases hd
    | some b =>
    rw [hb0] at hd
    cases hd
    have hi := (List.getElem?_eq_some_iff.mp hb0).1
    obtain ⟨h1, h2, h3, rfl, o, rfl⟩ := h
    have hb := hr b (List.mem_of_getElem? hb0)
    have hs := small_last h2
    have hg := small_gcd hs hb
    have hll : (s.map D.int).length < 1000000 := by rw [List.length_map]; omega
    refine ⟨_, [some (.d (ti (x :: r))), some (.cell M.length), some (.d (.int b))], M ++ [some (.l ((s ++ [(Int.gcd (lastI s) b : Int)]).map .int))], rfl, el_start ?_, by simp, ?_, by simp [h3], rfl, _, rfl⟩
    · repeat' (first | (wtm_at "mpA") | (with_reducible apply p_idx (idx_cell last_get (atI_last h1))) | (with_reducible refine e_call (gcd_ok (by omega)) ?_) | (with_reducible refine m_appL hll ?_) | (wtm_at "mp1"))
      rw [List.map_append]
      rfl
    · intro y hy
      rcases List.mem_append.mp hy with hy | hy
      · exact h2 y hy
      · rw [List.mem_singleton.mp hy]; exact hg
  · obtain ⟨h1, h2, h3, rfl, o, rfl⟩ := h
    repeat' (first | (wtm_at "mpA") | (wtm_at "mp1"))
    refine r_c.trans ?_
    rw [foldl_map]
    rfl
theorem lsteps_ok {x : Int} {r : List Int} {M : Mem} (hx : Small x) (hr : ∀ b ∈ r, Small b) (hl : r.length ≤ 100000) : F_law_steps [.d (ti (x :: r))] M = .ok (.fr ((stepsL x r).map .int)) M := by
  unfold F_law_steps
  refine e_fn rfl ?_
  unfold T_law_steps
  repeat' (first | (wtm_at "mpA") | (with_reducible apply p_idx idx_head) | (with_reducible refine cut_tail ?_) | (wtm_at "mp1"))
  refine e_foldI (fun i (s : List Int) env M' => s ≠ [] ∧ (∀ y ∈ s, Small y) ∧ s.length = i + 1 ∧ M' = M ++ [some (.l (s.map .int))] ∧ ∃ o, env = [some (.d (ti (x :: r))), some (.cell M.length), o]) (fun s d => match d with | .int b => s ++ [(Int.gcd (lastI s) b : Int)] | _ => s) [x]
    ⟨by simp, by simpa using hx, rfl, rfl, _, rfl⟩ (fun i d hd s env M' h => ?_) (fun env M' h => ?_)
  · rw [List.getElem?_map] at hd
    cases hb0 : r[i]? with
    | none => rw [hb0] at hd; cases hd
    | some b =>
    rw [hb0] at hd
    cases hd
    have hi := (List.getElem?_eq_some_iff.mp hb0).1
    obtain ⟨h1, h2, h3, rfl, o, rfl⟩ := h
    have hb := hr b (List.mem_of_getElem? hb0)
    have hs := small_last h2
    have hg := small_gcd hs hb
    have hll : (s.map D.int).length < 1000000 := by rw [List.length_map]; omega
    refine ⟨_, [some (.d (ti (x :: r))), some (.cell M.length), some (.d (.int b))], M ++ [some (.l ((s ++ [(Int.gcd (lastI s) b : Int)]).map .int))], rfl, el_start ?_, by simp, ?_, by simp [h3], rfl, _, rfl⟩
    · repeat' (first | (wtm_at "mpA") | (with_reducible apply p_idx (idx_cell last_get (atI_last h1))) | (with_reducible refine e_call (common_ok (by omega) (by omega) (by omega)) ?_) | (with_reducible refine m_appL hll ?_) | (wtm_at "mp1"))
      rw [List.map_append]
      rfl
    · intro y hy
      rcases List.mem_append.mp hy with hy | hy
      · exact h2 y hy
      · rw [List.mem_singleton.mp hy]; exact hg
  · obtain ⟨h1, h2, h3, rfl, o, rfl⟩ := h
    repeat' (first | (wtm_at "mpA") | (wtm_at "mp1"))
    refine r_c.trans ?_
    rw [foldl_map]
    rfl

def tmI (c e : List Int) (i : Int) : Int := (e.getD (i - 1).toNat 0 - e.getD i.toNat 0) * c.getD i.toNat 0
def condI (c e : List Int) : Int := ((List.range (c.length - 1)).map fun k : Nat => tmI c e (1 + k)).sum - c.headD 0 + 1
theorem stepsL_len (x : Int) (r : List Int) : (stepsL x r).length = r.length + 1 := by
  have h : ∀ (r s : List Int), (r.foldl (fun s b => s ++ [(Int.gcd (lastI s) b : Int)]) s).length = s.length + r.length := by
    intro r
    induction r with
    | nil => intro s; rfl
    | cons b r ih => intro s; rw [List.foldl_cons, ih]; simp; omega
  unfold stepsL
  rw [h, List.length_singleton]
  omega
theorem stepsL_small {x : Int} {r : List Int} (hx : Small x) (hr : ∀ b ∈ r, Small b) : ∀ y ∈ stepsL x r, Small y := by
  have h : ∀ (r s : List Int), (∀ b ∈ r, Small b) → (∀ y ∈ s, Small y) → ∀ y ∈ r.foldl (fun s b => s ++ [(Int.gcd (lastI s) b : Int)]) s, Small y := by
    intro r
    induction r with
    | nil => intro s _ h2; exact h2
    | cons b r ih =>
      intro s h1 h2
      refine ih _ (fun b hb => h1 b (.tail _ hb)) fun y hy => ?_
      rcases List.mem_append.mp hy with hy | hy
      · exact h2 y hy
      · rw [List.mem_singleton.mp hy]; exact small_gcd (small_last h2) (h1 b List.mem_cons_self)
  exact h r [x] hr (by simpa using hx)
theorem rngL_get {lo : Int} {n i : Nat} {d : D} (h : (rngL lo n)[i]? = some d) : i < n ∧ d = .int (lo + i) := by
  unfold rngL at h
  rw [List.getElem?_map] at h
  by_cases hi : i < n
  · rw [List.getElem?_range hi] at h
    cases h
    exact ⟨hi, rfl⟩
  · rw [List.getElem?_eq_none (by rw [List.length_range]; omega)] at h
    cases h
theorem rngL_mem {lo : Int} {n : Nat} {d : D} (h : d ∈ rngL lo n) : ∃ k : Nat, k < n ∧ d = .int (lo + k) := by
  obtain ⟨i, hi⟩ := List.getElem?_of_mem h
  obtain ⟨h1, h2⟩ := rngL_get hi
  exact ⟨i, h1, h2⟩
theorem idx_li {c : List Int} {i : Int} {M : Mem} (h0 : 0 ≤ i) (h : i < c.length) : idx (.d (.lst (c.map .int))) (.d (.int i)) M = .ok (.d (.int (c.getD i.toNat 0))) M :=
  idx_lst (atI_int h0 (by rw [List.getElem?_map, List.getD_eq_getElem?_getD, List.getElem?_eq_getElem (by omega)]; rfl))
theorem idx_tiI {c : List Int} {i : Int} {M : Mem} (h0 : 0 ≤ i) (h : i < c.length) : idx (.d (ti c)) (.d (.int i)) M = .ok (.d (.int (c.getD i.toNat 0))) M :=
  idx_tup (atI_int h0 (by rw [List.getElem?_map, List.getD_eq_getElem?_getD, List.getElem?_eq_getElem (by omega)]; rfl))
theorem bits_small {i : Int} (h1 : -9223372036854775808 < i) (h2 : i < 9223372036854775808) (j : Int) : mulOk i j = true := mul_l (by omega) (by omega)
theorem getD_small {c : List Int} (h : ∀ y ∈ c, Small y) (i : Nat) : Small (c.getD i 0) := by
  rw [List.getD_eq_getElem?_getD]
  cases e : c[i]? with
  | none => exact ⟨by decide, by decide⟩
  | some y => exact h y (List.mem_of_getElem? e)
theorem sum_ints {ns : List Int} {M : Mem} : sum2Op [.d (.lst (ns.map .int))] M = .ok (.d (.int ns.sum)) M := sum2_l
theorem cond_ok {x : Int} {r : List Int} {M : Mem} (hx : Small x) (hr : ∀ b ∈ r, Small b) (hl : r.length ≤ 100000) : Fconductor_of [.d (ti (x :: r))] M = .ok (.d (.int (condI (x :: r) (stepsL x r)))) M := by
  have hc : ∀ y ∈ x :: r, Small y := fun y hy => by
    rcases List.mem_cons.mp hy with h | h
    · rw [h]; exact hx
    · exact hr y h
  have he := stepsL_small hx hr
  have hlen := stepsL_len x r
  have hlc : ((x :: r).map D.int).length ≤ 1000000 := by simp; omega
  unfold Fconductor_of
  refine e_fn rfl ?_
  unfold Tconductor_of
  repeat' (first | (wtm_at "mpA") | (with_reducible refine e_call (steps_ok hx hr hl) ?_) | (with_reducible apply p_idx idx_head) | (wtm_at "mp1"))
  refine e_compE (fun d => match d with | .int i => .int (tmI (x :: r) (stepsL x r) i) | d => d) (fun _ => true) (fun d hd => ?_) ?_ ?_
  · obtain ⟨k, hk, rfl⟩ := rngL_mem hd
    have hk : k < r.length := by simp at hk; omega
    have s1 := getD_small he ((1 : Int) + k - 1).toNat
    have s2 := getD_small he ((1 : Int) + k).toNat
    have i1 : idx (.d (.lst ((stepsL x r).map .int))) (.d (.int (1 + k - 1))) M = _ := idx_li (by omega) (by rw [hlen]; omega)
    have i2 : idx (.d (.lst ((stepsL x r).map .int))) (.d (.int (1 + k))) M = _ := idx_li (by omega) (by rw [hlen]; omega)
    have i3 : idx (.d (ti (x :: r))) (.d (.int (1 + k))) M = _ := idx_tiI (by omega) (by simp; omega)
    refine ⟨_, rfl, rfl, fun _ => ⟨.d (.int (tmI (x :: r) (stepsL x r) (1 + k))), el_start ?_, rfl⟩⟩
    repeat' (first | (wtm_at "mpA") | (with_reducible apply p_idx i1) | (with_reducible apply p_idx i2) | (with_reducible apply p_idx i3) | (wtm_at "mp1"))
    rfl
  · unfold rngL
    simp
    omega
  · have e : ((rngL 1 (((x :: r).map D.int).length - 1 : Int).toNat).filter fun _ => true).map (fun d => match d with | .int i => D.int (tmI (x :: r) (stepsL x r) i) | d => d) = (((List.range r.length).map fun k : Nat => tmI (x :: r) (stepsL x r) (1 + k))).map D.int := by
      have e1 : (((x :: r).map D.int).length - 1 : Int).toNat = r.length := by simp
      rw [e1, List.filter_eq_self.mpr (fun _ _ => rfl)]
      unfold rngL
      rw [List.map_map, List.map_map]
      rfl
    dsimp only
    rw [e]
    repeat' (first | (wtm_at "mpA") | (with_reducible apply e_call sum_ints) | (with_reducible apply p_idx idx_head) | (wtm_at "mp1"))
theorem lcond_ok {x : Int} {r : List Int} {M : Mem} (hx : Small x) (hr : ∀ b ∈ r, Small b) (hl : r.length ≤ 100000) : F_law_conductor [.d (ti (x :: r))] M = .ok (.d (.int (condI (x :: r) (stepsL x r)))) M := by
  have he := stepsL_small hx hr
  have hlen := stepsL_len x r
  unfold F_law_conductor
  refine e_fn rfl ?_
  unfold T_law_conductor
  have hlc : ((x :: r).map D.int).length ≤ 1000000 := by simp; omega
  repeat' (first | (wtm_at "mpA") | (with_reducible refine e_call (lsteps_ok hx hr hl) ?_) | (with_reducible apply p_idx idx_head) | (wtm_at "mp1"))
  have e1 : (((x :: r).map D.int).length - 1 : Int).toNat = r.length := by simp
  dsimp only
  rw [e1]
  refine e_foldI (fun i (s : Int) env M' => M' = M ∧ ∃ o, env = [some (.d (ti (x :: r))), o, some (.d (.lst ((stepsL x r).map .int))), some (.d (.int s))]) (fun s d => match d with | .int i => s + tmI (x :: r) (stepsL x r) i | _ => s) (1 - x)
    ⟨rfl, _, rfl⟩ (fun i d hd s env M' h => ?_) (fun env M' h => ?_)
  · obtain ⟨hk, rfl⟩ := rngL_get hd
    obtain ⟨rfl, o, rfl⟩ := h
    have s1 := getD_small he ((1 : Int) + i - 1).toNat
    have s2 := getD_small he ((1 : Int) + i).toNat
    have i1 : idx (.d (.lst ((stepsL x r).map .int))) (.d (.int (1 + i - 1))) M' = _ := idx_li (by omega) (by rw [hlen]; omega)
    have i2 : idx (.d (.lst ((stepsL x r).map .int))) (.d (.int (1 + i))) M' = _ := idx_li (by omega) (by rw [hlen]; omega)
    have i3 : idx (.d (ti (x :: r))) (.d (.int (1 + i))) M' = _ := idx_tiI (by omega) (by simp; omega)
    refine ⟨_, [some (.d (ti (x :: r))), some (.d (.int (1 + i))), some (.d (.lst ((stepsL x r).map .int))), some (.d (.int (s + tmI (x :: r) (stepsL x r) (1 + i))))], M', rfl, el_start ?_, rfl, _, rfl⟩
    repeat' (first | (wtm_at "mpA") | (with_reducible apply p_idx i1) | (with_reducible apply p_idx i2) | (with_reducible apply p_idx i3) | (wtm_at "mp1"))
    rfl
  · obtain ⟨rfl, o, rfl⟩ := h
    repeat' (first | (wtm_at "mpA") | (wtm_at "mp1"))
    refine r_d.trans ?_
    have e2 : ∀ (l : List Nat) (s : Int), (l.map fun k : Nat => D.int (1 + k)).foldl (fun s d => match d with | .int i => s + tmI (x :: r) (stepsL x r) i | _ => s) s = s + (l.map fun k : Nat => tmI (x :: r) (stepsL x r) (1 + k)).sum := by
      intro l
      induction l with
      | nil => intro s; simp
      | cons a l ih => intro s; rw [List.map_cons, List.foldl_cons, ih, List.map_cons, List.sum_cons]; show s + tmI (x :: r) (stepsL x r) (1 + a) + _ = _; omega
    unfold rngL condI
    rw [e2]
    simp
    omega

theorem isint {a : Int} {M : Mem} : Fis_integer [.d (.int a)] M = .ok (.d (.bl true)) M := by
  unfold Fis_integer
  refine e_fn rfl ?_
  unfold Tis_integer
  repeat' (first | (wtm_at "mpA") | (wtm_at "mp2"))
theorem whole {a : Int} {M : Mem} : F_law_is_whole [.d (.int a)] M = .ok (.d (.bl true)) M := by
  unfold F_law_is_whole
  refine e_fn rfl ?_
  unfold T_law_is_whole
  repeat' (first | (wtm_at "mpA") | (wtm_at "mp2"))
theorem flats_ti : ∀ c : List Int, D.flats (c.map .int) = true
  | [] => rfl
  | _ :: r => by show (true && D.flats (r.map .int)) = true; rw [flats_ti r]; rfl
theorem canLay_ti : ∀ c : List Int, PyData.canLayAll0 (D.pys (c.map .int)) = true
  | [] => rfl
  | _ :: r => by show (true && PyData.canLayAll0 (D.pys (r.map .int))) = true; rw [canLay_ti r]; rfl
theorem depth_ti : ∀ c : List Int, PyData.depthAll (D.pys (c.map .int)) = 0
  | [] => rfl
  | _ :: r => by show max 0 (PyData.depthAll (D.pys (r.map .int))) = 0; rw [depth_ti r]; rfl
theorem ok_ti (c : List Int) : (ti c).ok = true := by
  show (D.flats (c.map .int) && (PyData.canLayAll0 (D.pys (c.map .int)) && decide (PyData.depthAll (D.pys (c.map .int)) + 1 ≤ 64))) = true
  rw [flats_ti, canLay_ti, depth_ti]
  rfl
theorem eqvAll_ti : ∀ c d : List Int, PyData.eqvAll (D.pys (c.map .int)) (D.pys (d.map .int)) = decide (c = d)
  | [], [] => by simp [D.pys, PyData.eqvAll]
  | [], _ :: _ => by simp [D.pys, PyData.eqvAll]
  | _ :: _, [] => by simp [D.pys, PyData.eqvAll]
  | a :: r, b :: q => by
    show (PyData.eqv (.int a) (.int b) && PyData.eqvAll (D.pys (r.map .int)) (D.pys (q.map .int))) = _
    rw [eqvAll_ti r q, eqv_int]
    by_cases h1 : a = b <;> by_cases h2 : r = q <;> simp [h1, h2]
theorem eqv_ti (c d : List Int) : D.eqv (ti c) (ti d) = decide (c = d) := eqvAll_ti c d
theorem all_bls {bs : List Bool} {M : Mem} : allOp [.d (.lst (bs.map .bl))] M = .ok (.d (.bl (bs.all id))) M := by
  show (match (lstOf M (.d (.lst (bs.map .bl)))).bind bools? with
    | some bs => Out.ok (AV.d (.bl (bs.all id))) M
    | none => .bad) = _
  have e : (lstOf M (.d (.lst (bs.map .bl)))).bind bools? = some bs := bools_map bs
  rw [e]
theorem are_ok {c : List Int} {M : Mem} (hl : c.length ≤ 100000) : Fare_integers [.d (ti c)] M = .ok (.d (.bl true)) M := by
  unfold Fare_integers
  refine e_fn rfl ?_
  unfold Tare_integers
  repeat' (first | (wtm_at "mpA") | (wtm_at "mp1"))
  refine e_compE (fun _ => .bl true) (fun _ => true) (fun d hd => ?_) (by simp; omega) ?_
  · obtain ⟨b, hb, rfl⟩ := List.mem_map.mp hd
    refine ⟨_, rfl, rfl, fun _ => ⟨.d (.bl true), el_start ?_, rfl⟩⟩
    repeat' (first | (wtm_at "mpA") | (with_reducible refine e_call isint ?_) | (wtm_at "mp1"))
    rfl
  · have e : ((c.map D.int).filter fun _ => true).map (fun _ => D.bl true) = (c.map fun _ => true).map D.bl := by
      rw [List.filter_eq_self.mpr (fun _ _ => rfl), List.map_map, List.map_map]
      rfl
    dsimp only
    rw [e]
    repeat' (first | (wtm_at "mpA") | (with_reducible apply e_call all_bls) | (wtm_at "mp1"))
    refine r_d.trans ?_
    simp
theorem zipL_ints : ∀ xs ys : List Int, zipL (xs.map .int) (ys.map .int) = (List.zip xs ys).map fun p => D.tup [.int p.1, .int p.2]
  | [], ys => by cases ys <;> rfl
  | _ :: _, [] => rfl
  | x :: xs, y :: ys => by
    show D.tup [.int x, .int y] :: zipL (xs.map .int) (ys.map .int) = _
    rw [zipL_ints xs ys]
    rfl
def ascZ (c : List Int) : Bool := (List.zip c c.tail).all fun p => decide (p.1 < p.2)
def descZ (c : List Int) : Bool := (List.zip c c.tail).all fun p => decide (p.2 < p.1)
def clsB (x : Int) (r : List Int) : Bool := decide (x :: r = [1]) || (decide (2 ≤ x ∧ x ≤ 60) && (decide (lastI (x :: r) ≤ 300) && (ascZ (x :: r) && (decide (lastI (stepsL x r) = 1) && (descZ (stepsL x r) && decide (condI (x :: r) (stepsL x r) ≤ 3000))))))
theorem asc_facts {x : Int} : ∀ {r : List Int}, ascZ (x :: r) = true → (∀ b ∈ r, x < b ∧ b ≤ lastI (x :: r)) ∧ x ≤ lastI (x :: r)
  | [], _ => ⟨fun _ h => (nomatch h), by simp [lastI]⟩
  | b :: r, h => by
    unfold ascZ at h
    simp only [List.tail_cons, List.zip_cons_cons, List.all_cons, Bool.and_eq_true, decide_eq_true_eq] at h
    have ih := asc_facts (x := b) (r := r) (by unfold ascZ; exact h.2)
    have e : lastI (x :: b :: r) = lastI (b :: r) := by simp [lastI]
    rw [e]
    refine ⟨fun y hy => ?_, by omega⟩
    rcases List.mem_cons.mp hy with rfl | hy
    · exact ⟨h.1, ih.2⟩
    · have := ih.1 y hy
      omega
theorem cls_small {x : Int} {r : List Int} (h1 : 2 ≤ x ∧ x ≤ 60) (h2 : lastI (x :: r) ≤ 300) (h3 : ascZ (x :: r) = true) : Small x ∧ ∀ b ∈ r, Small b := by
  have f := asc_facts h3
  refine ⟨⟨by omega, by omega⟩, fun b hb => ?_⟩
  have := f.1 b hb
  exact ⟨by omega, by omega⟩
theorem idx_last {x : Int} {r : List Int} {M : Mem} : idx (.d (ti (x :: r))) (.d (.int (-1))) M = .ok (.d (.int (lastI (x :: r)))) M := idx_tup (atI_last (by simp))
theorem zip_map {β : Type} {kx : Exc → Mem → Out β} {res : Out β} {k : AV → Mem → Out β} {xs ys : List Int} {f : SE} {tg : Tg} {vs : List Nat} {env : Env} {M : Mem} (p : Int × Int → Bool)
    (h : ∀ a b : Int, ∃ e, tg.bind (.tup [.int a, .int b]) (wipeE env vs) = some e ∧ f e M = .ok (.d (.bl (p (a, b)))) M) (hl : xs.length ≤ 100000)
    (q : k (.fr (((List.zip xs ys).map p).map .bl)) M = res) : el (compL f sYes tg vs [] env (zipL (xs.map .int) (ys.map .int)) [] M) k kx = res := by
  rw [zipL_ints]
  refine e_compE (fun d => match d with | .tup [.int a, .int b] => .bl (p (a, b)) | d => d) (fun _ => true) (fun d hd => ?_) ?_ ?_
  · obtain ⟨⟨a, b⟩, _, rfl⟩ := List.mem_map.mp hd
    obtain ⟨e, e1, e2⟩ := h a b
    exact ⟨e, e1, rfl, fun _ => ⟨_, e2, rfl⟩⟩
  · simp
    omega
  · rw [List.filter_eq_self.mpr (fun _ _ => rfl), List.map_map]
    rw [List.map_map] at q
    exact q
theorem cmp_one {β : Type} {kx : Exc → Mem → Out β} {res : Out β} {k : AV → Mem → Out β} {c : List Int} {M : Mem} (h : k (.d (.bl (decide (c = [1])))) M = res) : el (cmpop .Eq (.d (ti c)) (.d (.tup [.int 1])) M) k kx = res :=
  p_eq (ok_ti c) (ok_ti [1]) (by rw [show D.eqv (ti c) (.tup [.int 1]) = decide (c = [1]) from eqv_ti c [1]]; exact h)
theorem isclass_ok {x : Int} {r : List Int} {M : Mem} (hl : r.length ≤ 90000) : Fis_class [.d (ti (x :: r))] M = .ok (.d (.bl (clsB x r))) M := by
  have hn : ¬ (((r.length + 1 : Nat) : Int) = 0) := by omega
  unfold Fis_class
  refine e_fn rfl ?_
  unfold Tis_class
  repeat' (first | (wtm_at "mpA") | (with_reducible refine e_call (are_ok (by simp; omega)) ?_) | (with_reducible apply p_idx idx_head) | (with_reducible apply p_idx idx_last) | (with_reducible refine cmp_one ?_) | (wtm_at "mp1"))
  by_cases h1 : x :: r = [1]
  · have hc : clsB x r = true := by unfold clsB; rw [decide_eq_true h1]; rfl
    rw [hc, decide_eq_true h1]
    repeat' (first | (wtm_at "mpA") | (wtm_at "mp1"))
  rw [decide_eq_false h1]
  by_cases h2 : 2 ≤ x ∧ x ≤ 60
  · by_cases h3 : lastI (x :: r) ≤ 300
    · repeat' (first | (wtm_at "mpA") | (with_reducible apply p_idx idx_head) | (with_reducible apply p_idx idx_last) | (with_reducible refine cut_tail ?_) | (wtm_at "mp1"))
      refine zip_map (fun p => decide (p.1 < p.2)) (fun a b => ⟨_, rfl, ?_⟩) (by simp; omega) ?_
      · refine el_start ?_
        repeat' (first | (wtm_at "mpA") | (wtm_at "mp1"))
        rfl
      have e4 : ((List.zip (x :: r) r).map fun p => decide (p.1 < p.2)).all id = ascZ (x :: r) := by rw [List.all_map]; rfl
      repeat' (first | (wtm_at "mpA") | (with_reducible apply e_call all_bls) | (wtm_at "mp1"))
      rw [e4]
      cases h4 : ascZ (x :: r) with
      | false =>
        have hc : clsB x r = false := by unfold clsB; rw [decide_eq_false h1, h4]; simp
        rw [hc]
        repeat' (first | (wtm_at "mpA") | (wtm_at "mp1"))
      | true =>
        obtain ⟨s1, s2⟩ := cls_small h2 h3 h4
        have hne : stepsL x r ≠ [] := by
          intro z
          have := stepsL_len x r
          rw [z] at this
          cases this
        have i1 : idx (.d (.lst ((stepsL x r).map .int))) (.d (.int (-1))) M = .ok (.d (.int (lastI (stepsL x r)))) M := idx_lst (atI_last hne)
        repeat' (first | (wtm_at "mpA") | (with_reducible refine e_call (steps_ok s1 s2 (by omega)) ?_) | (with_reducible apply p_idx i1) | (wtm_at "mp1"))
        by_cases h5 : lastI (stepsL x r) = 1
        · rw [decide_eq_true h5]
          obtain ⟨y, q, hq⟩ : ∃ y q, stepsL x r = y :: q := by
            cases z : stepsL x r with
            | nil => exact absurd z hne
            | cons y q => exact ⟨y, q, rfl⟩
          have hql : q.length ≤ 90000 := by
            have := stepsL_len x r
            rw [hq] at this
            simp at this
            omega
          rw [hq]
          have cf : cutG ((y :: q).map D.int) (some 1) none = q.map D.int := cutG_tail
          repeat' (first | (wtm_at "mpA") | (wtm_at "mp1"))
          rw [cf]
          repeat' (first | (wtm_at "mpA") | (wtm_at "mp1"))
          refine zip_map (fun p => decide (p.2 < p.1)) (fun a b => ⟨_, rfl, ?_⟩) (by simp; omega) ?_
          · refine el_start ?_
            repeat' (first | (wtm_at "mpA") | (wtm_at "mp1"))
            rfl
          have e6 : ((List.zip (y :: q) q).map fun p => decide (p.2 < p.1)).all id = descZ (stepsL x r) := by rw [List.all_map, hq]; rfl
          repeat' (first | (wtm_at "mpA") | (with_reducible apply e_call all_bls) | (wtm_at "mp1"))
          rw [e6]
          cases h6 : descZ (stepsL x r) with
          | false =>
            have hc : clsB x r = false := by unfold clsB; rw [decide_eq_false h1, h6]; simp
            rw [hc]
            repeat' (first | (wtm_at "mpA") | (wtm_at "mp1"))
          | true =>
            have hc : clsB x r = decide (condI (x :: r) (stepsL x r) ≤ 3000) := by
              unfold clsB
              rw [decide_eq_false h1, decide_eq_true h2, decide_eq_true h3, h4, decide_eq_true h5, h6]
              simp
            rw [hc]
            repeat' (first | (wtm_at "mpA") | (with_reducible refine e_call (cond_ok s1 s2 (by omega)) ?_) | (wtm_at "mp1"))
        · have hc : clsB x r = false := by unfold clsB; rw [decide_eq_false h1, decide_eq_false h5]; simp
          rw [hc, decide_eq_false h5]
          repeat' (first | (wtm_at "mpA") | (wtm_at "mp1"))
    · have hc : clsB x r = false := by unfold clsB; rw [decide_eq_false h1, decide_eq_false h3]; simp
      rw [hc]
      repeat' (first | (wtm_at "mpA") | (with_reducible apply p_idx idx_head) | (with_reducible apply p_idx idx_last) | (wtm_at "mp1"))
  · have hc : clsB x r = false := by unfold clsB; rw [decide_eq_false h1, decide_eq_false h2]; rfl
    rw [hc]
    repeat' (first | (wtm_at "mpA") | (with_reducible apply p_idx idx_head) | (with_reducible apply p_idx idx_last) | (wtm_at "mp2"))

theorem zip_all (p : Int × Int → Bool) : ∀ (x : Int) (r : List Int), (List.zip (x :: r) r).all p = true ↔ ∀ k, k < r.length → p ((x :: r).getD k 0, r.getD k 0) = true
  | x, [] => by simp
  | x, b :: r => by
    rw [List.zip_cons_cons, List.all_cons, Bool.and_eq_true, zip_all p b r]
    constructor
    · rintro ⟨h1, h2⟩ k hk
      cases k with
      | zero => exact h1
      | succ k => exact h2 k (by simpa using hk)
    · intro h
      exact ⟨h 0 (by simp), fun k hk => h (k + 1) (by simpa using hk)⟩
/-- how many places of a range are bad -/
def badB (p : Int → Int → Bool) (c : List Int) : D → Bool := fun d => match d with
  | .int i => p (c.getD i.toNat 0) (c.getD (i - 1).toNat 0)
  | _ => false
theorem bad_cnt (p : Int → Int → Bool) (q : Int × Int → Bool) (hpq : ∀ a b, q (a, b) = !p b a) (x : Int) (r : List Int) :
    decide ((0 : Int) < ((((rngL 1 r.length).filter (badB p (x :: r))).map id).length : Nat)) = !((List.zip (x :: r) r).all q) := by
  by_cases h : (List.zip (x :: r) r).all q = true
  · have z := (zip_all q x r).mp h
    have e : (rngL 1 r.length).filter (badB p (x :: r)) = [] := by
      rw [List.filter_eq_nil_iff]
      intro d hd
      obtain ⟨k, hk, rfl⟩ := rngL_mem hd
      have := z k hk
      rw [hpq] at this
      show ¬ (p ((x :: r).getD ((1 : Int) + k).toNat 0) ((x :: r).getD ((1 : Int) + k - 1).toNat 0) = true)
      have e1 : ((1 : Int) + k).toNat = k + 1 := by omega
      have e2 : ((1 : Int) + k - 1).toNat = k := by omega
      rw [e1, e2]
      simpa using this
    rw [h, e]
    rfl
  · have h' : (List.zip (x :: r) r).all q = false := by simpa using h
    have z : ∃ k, k < r.length ∧ q ((x :: r).getD k 0, r.getD k 0) ≠ true := by
      have := mt (zip_all q x r).mpr h
      simpa using this
    obtain ⟨k, hk, hq⟩ := z
    have hm : D.int (1 + k) ∈ (rngL 1 r.length).filter (badB p (x :: r)) := by
      rw [List.mem_filter]
      refine ⟨List.mem_map.mpr ⟨k, List.mem_range.mpr hk, rfl⟩, ?_⟩
      rw [hpq] at hq
      show p ((x :: r).getD ((1 : Int) + k).toNat 0) ((x :: r).getD ((1 : Int) + k - 1).toNat 0) = true
      have e1 : ((1 : Int) + k).toNat = k + 1 := by omega
      have e2 : ((1 : Int) + k - 1).toNat = k := by omega
      rw [e1, e2]
      simpa using hq
    rw [h']
    have hl : 0 < ((rngL 1 r.length).filter (badB p (x :: r))).length := List.length_pos_of_mem hm
    simp only [List.map_id, Bool.not_false, decide_eq_true_eq]
    omega
theorem stepsL_cons (x b : Int) (r : List Int) : stepsL x (b :: r) = x :: stepsL (Int.gcd x b) r := by
  have h : ∀ (r s : List Int) (y : Int), s ≠ [] → r.foldl (fun s b => s ++ [(Int.gcd (lastI s) b : Int)]) (y :: s) = y :: r.foldl (fun s b => s ++ [(Int.gcd (lastI s) b : Int)]) s := by
    intro r
    induction r with
    | nil => intro s y _; rfl
    | cons b r ih =>
      intro s y hs
      have e : lastI (y :: s) = lastI s := by
        unfold lastI
        cases s with
        | nil => exact absurd rfl hs
        | cons a s => simp
      rw [List.foldl_cons, List.foldl_cons, List.cons_append, ih _ y (by simp), e]
  unfold stepsL
  rw [List.foldl_cons]
  show r.foldl _ (x :: [(Int.gcd (lastI [x]) b : Int)]) = _
  rw [h r _ x (by simp)]
  rfl
/-- each step divides the one before -/
theorem stepsL_le : ∀ (x : Int) (r : List Int), 0 < x → (∀ b ∈ r, 0 < b) → ∀ k, k < r.length → 0 < (stepsL x r).getD (k + 1) 0 ∧ (stepsL x r).getD (k + 1) 0 ≤ (stepsL x r).getD k 0
  | x, [], _, _, k, hk => absurd hk (Nat.not_lt_zero _)
  | x, b :: r, hx, hr, k, hk => by
    rw [stepsL_cons]
    have hb := hr b List.mem_cons_self
    have hg : 0 < (Int.gcd x b : Int) := by
      have := Int.gcd_pos_of_ne_zero_left b (show x ≠ 0 by omega)
      omega
    have hle : (Int.gcd x b : Int) ≤ x := by
      have := Int.gcd_le_natAbs_left b (show x ≠ 0 by omega)
      omega
    cases k with
    | zero =>
      have e : (stepsL (Int.gcd x b) r).getD 0 0 = Int.gcd x b := by
        cases r with
        | nil => rfl
        | cons c r => rw [stepsL_cons]; rfl
      show 0 < (stepsL (Int.gcd x b) r).getD 0 0 ∧ (stepsL (Int.gcd x b) r).getD 0 0 ≤ x
      rw [e]
      exact ⟨hg, hle⟩
    | succ k => exact stepsL_le (Int.gcd x b) r hg (fun c hc => hr c (.tail _ hc)) k (by simpa using hk)
theorem desc_ne {x : Int} {r : List Int} (hx : 0 < x) (hr : ∀ b ∈ r, 0 < b) {y : Int} {q : List Int} (hq : stepsL x r = y :: q) : (List.zip (y :: q) q).all (fun p => !decide (p.2 = p.1)) = descZ (stepsL x r) := by
  have hlen : q.length = r.length := by
    have := stepsL_len x r
    rw [hq] at this
    simpa using this
  have e1 : descZ (stepsL x r) = (List.zip (y :: q) q).all fun p => decide (p.2 < p.1) := by unfold descZ; rw [hq]; rfl
  rw [e1, Bool.eq_iff_iff, zip_all, zip_all]
  have mono : ∀ k, k < q.length → q.getD k 0 ≤ (y :: q).getD k 0 := fun k hk => by
    have := (stepsL_le x r hx hr k (by omega)).2
    rw [hq] at this
    simpa using this
  constructor
  · intro h k hk
    have h1 := h k hk
    have h2 := mono k hk
    simp only [Bool.not_eq_true', decide_eq_false_iff_not] at h1
    simp only [decide_eq_true_eq]
    omega
  · intro h k hk
    have h1 := h k hk
    simp only [decide_eq_true_eq] at h1
    simp only [Bool.not_eq_true', decide_eq_false_iff_not]
    omega
theorem cnt_comp {β : Type} {kx : Exc → Mem → Out β} {res : Out β} {k : AV → Mem → Out β} {n : Nat} {c : SB} {tg : Tg} {vs : List Nat} {env : Env} {M : Mem} {f : SE} (p : D → Bool) (hn : n ≤ 1000000)
    (h : ∀ j : Nat, j < n → ∃ e, tg.bind (.int (1 + j)) (wipeE env vs) = some e ∧ c e M = .ok (p (.int (1 + j))) M ∧ f e M = .ok (.d (.int (1 + j))) M)
    (q : k (.fr (((rngL 1 n).filter p).map id)) M = res) : el (compL f c tg vs [] env (rngL 1 n) [] M) k kx = res := by
  refine e_compE id p (fun d hd => ?_) (by unfold rngL; simpa using hn) q
  obtain ⟨j, hj, rfl⟩ := rngL_mem hd
  obtain ⟨e, e1, e2, e3⟩ := h j hj
  exact ⟨e, e1, e2, fun _ => ⟨_, e3, rfl⟩⟩
theorem lt_nle (a b : Int) : (fun p : Int × Int => decide (p.1 < p.2)) (a, b) = !(fun a b : Int => decide (a ≤ b)) b a := by
  show decide (a < b) = !decide (b ≤ a)
  by_cases h : a < b
  · rw [decide_eq_true h, decide_eq_false (by omega)]; rfl
  · rw [decide_eq_false h, decide_eq_true (by omega)]; rfl
theorem lisclass_ok {x : Int} {r : List Int} {M : Mem} (hl : r.length ≤ 90000) : F_law_is_class [.d (ti (x :: r))] M = .ok (.d (.bl (clsB x r))) M := by
  have hn : ¬ (((r.length + 1 : Nat) : Int) = 0) := by omega
  have hl2 : ((x :: r).map D.int).length ≤ 1000000 := by simp; omega
  unfold F_law_is_class
  refine e_fn rfl ?_
  unfold T_law_is_class
  repeat' (first | (wtm_at "mpA") | (wtm_at "mp0"))
  refine e_compE (fun _ => .bl true) (fun _ => true) (fun d hd => ?_) hl2 ?_
  · obtain ⟨b, hb, rfl⟩ := List.mem_map.mp hd
    refine ⟨_, rfl, rfl, fun _ => ⟨.d (.bl true), el_start ?_, rfl⟩⟩
    repeat' (first | (wtm_at "mpA") | (with_reducible refine e_call whole ?_) | (wtm_at "mp1"))
    rfl
  have e0 : (((x :: r).map D.int).filter fun _ => true).map (fun _ => D.bl true) = ((x :: r).map fun _ => true).map D.bl := by
    rw [List.filter_eq_self.mpr (fun _ _ => rfl), List.map_map, List.map_map]
    rfl
  have e00 : ((x :: r).map fun _ => true).all id = true := by simp
  dsimp only
  rw [e0]
  repeat' (first | (wtm_at "mpA") | (with_reducible apply e_call all_bls) | (wtm_at "mp1"))
  rw [e00]
  repeat' (first | (wtm_at "mpA") | (with_reducible refine cmp_one ?_) | (wtm_at "mp1"))
  by_cases h1 : x :: r = [1]
  · have hc : clsB x r = true := by unfold clsB; rw [decide_eq_true h1]; rfl
    rw [hc, decide_eq_true h1]
    repeat' (first | (wtm_at "mpA") | (wtm_at "mp1"))
  rw [decide_eq_false h1]
  by_cases h2 : 2 ≤ x ∧ x ≤ 60
  · by_cases h3 : lastI (x :: r) ≤ 300
    · repeat' (first | (wtm_at "mpA") | (with_reducible apply p_idx idx_head) | (with_reducible apply p_idx idx_last) | (wtm_at "mp1"))
      have en : (((x :: r).map D.int).length - 1 : Int).toNat = r.length := by simp
      dsimp only
      rw [en]
      refine cnt_comp (badB (fun a b => decide (a ≤ b)) (x :: r)) (by omega) (fun j hj => ⟨_, rfl, el_start ?_, el_start ?_⟩) ?_
      · have i1 : idx (.d (ti (x :: r))) (.d (.int (1 + j))) M = _ := idx_tiI (by omega) (by simp; omega)
        have i2 : idx (.d (ti (x :: r))) (.d (.int (1 + j - 1))) M = _ := idx_tiI (by omega) (by simp; omega)
        repeat' (first | (wtm_at "mpA") | (with_reducible apply p_idx i1) | (with_reducible apply p_idx i2) | (wtm_at "mp1"))
        rfl
      · repeat' (first | (wtm_at "mpA") | (wtm_at "mp1"))
        rfl
      repeat' (first | (wtm_at "mpA") | (wtm_at "mp1"))
      rw [bad_cnt (fun a b => decide (a ≤ b)) (fun p => decide (p.1 < p.2)) lt_nle x r]
      have ea : (List.zip (x :: r) r).all (fun p => decide (p.1 < p.2)) = ascZ (x :: r) := rfl
      rw [ea]
      cases h4 : ascZ (x :: r) with
      | false =>
        have hc : clsB x r = false := by unfold clsB; rw [decide_eq_false h1, h4]; simp
        rw [hc]
        repeat' (first | (wtm_at "mpA") | (wtm_at "mp1"))
      | true =>
        obtain ⟨s1, s2⟩ := cls_small h2 h3 h4
        have hne : stepsL x r ≠ [] := by
          intro z
          have := stepsL_len x r
          rw [z] at this
          cases this
        have i1 : idx (.d (.lst ((stepsL x r).map .int))) (.d (.int (-1))) M = .ok (.d (.int (lastI (stepsL x r)))) M := idx_lst (atI_last hne)
        repeat' (first | (wtm_at "mpA") | (with_reducible refine e_call (lsteps_ok s1 s2 (by omega)) ?_) | (with_reducible apply p_idx i1) | (wtm_at "mp1"))
        by_cases h5 : lastI (stepsL x r) = 1
        · rw [decide_eq_true h5]
          have hsl : ((stepsL x r).map D.int).length ≤ 100000 := by rw [List.length_map, stepsL_len]; omega
          repeat' (first | (wtm_at "mpA") | (wtm_at "mp1"))
          have en2 : (((stepsL x r).map D.int).length - 1 : Int).toNat = r.length := by rw [List.length_map, stepsL_len]; omega
          dsimp only
          rw [en2]
          refine cnt_comp (badB (fun a b => decide (a = b)) (stepsL x r)) (by omega) (fun j hj => ⟨_, rfl, el_start ?_, el_start ?_⟩) ?_
          · have j1 : idx (.d (.lst ((stepsL x r).map .int))) (.d (.int (1 + j))) M = _ := idx_li (by omega) (by rw [stepsL_len]; omega)
            have j2 : idx (.d (.lst ((stepsL x r).map .int))) (.d (.int (1 + j - 1))) M = _ := idx_li (by omega) (by rw [stepsL_len]; omega)
            repeat' (first | (wtm_at "mpA") | (with_reducible apply p_idx j1) | (with_reducible apply p_idx j2) | (wtm_at "mp1"))
            rfl
          · repeat' (first | (wtm_at "mpA") | (wtm_at "mp1"))
            rfl
          obtain ⟨y, q, hq⟩ : ∃ y q, stepsL x r = y :: q := by
            cases z : stepsL x r with
            | nil => exact absurd z hne
            | cons y q => exact ⟨y, q, rfl⟩
          have hql : q.length = r.length := by
            have := stepsL_len x r
            rw [hq] at this
            simpa using this
          have ed := desc_ne (x := x) (r := r) (by omega) (fun b hb => by have := (asc_facts h4).1 b hb; omega) hq
          repeat' (first | (wtm_at "mpA") | (wtm_at "mp1"))
          rw [hq, ← hql, bad_cnt (fun a b => decide (a = b)) (fun p => !decide (p.2 = p.1)) (fun a b => rfl) y q, ed]
          cases h6 : descZ (stepsL x r) with
          | false =>
            have hc : clsB x r = false := by unfold clsB; rw [decide_eq_false h1, h6]; simp
            rw [hc]
            repeat' (first | (wtm_at "mpA") | (wtm_at "mp1"))
          | true =>
            have hc : clsB x r = decide (condI (x :: r) (stepsL x r) ≤ 3000) := by
              unfold clsB
              rw [decide_eq_false h1, decide_eq_true h2, decide_eq_true h3, h4, decide_eq_true h5, h6]
              simp
            rw [hc]
            repeat' (first | (wtm_at "mpA") | (with_reducible refine e_call (lcond_ok s1 s2 (by omega)) ?_) | (wtm_at "mp1"))
        · have hc : clsB x r = false := by unfold clsB; rw [decide_eq_false h1, decide_eq_false h5]; simp
          rw [hc, decide_eq_false h5]
          repeat' (first | (wtm_at "mpA") | (wtm_at "mp1"))
    · have hc : clsB x r = false := by unfold clsB; rw [decide_eq_false h1, decide_eq_false h3]; simp
      rw [hc]
      repeat' (first | (wtm_at "mpA") | (with_reducible apply p_idx idx_head) | (with_reducible apply p_idx idx_last) | (wtm_at "mp1"))
  · have hc : clsB x r = false := by unfold clsB; rw [decide_eq_false h1, decide_eq_false h2]; rfl
    rw [hc]
    repeat' (first | (wtm_at "mpA") | (with_reducible apply p_idx idx_head) | (with_reducible apply p_idx idx_last) | (wtm_at "mp2"))

theorem foldl_rng {S : Type} (f : S → D → S) (lo : Int) : ∀ (l : List Nat) (s : S), (l.map fun k : Nat => D.int (lo + k)).foldl f s = l.foldl (fun s (k : Nat) => f s (.int (lo + k))) s
  | [], s => rfl
  | k :: l, s => foldl_rng f lo l _
theorem idx_lastC {α : Type} {f : α → D} {s : List α} {t : α} {M : Mem} : idx (.cell M.length) (.d (.int (-1))) (M ++ [some (.l ((s ++ [t]).map f))]) = .ok (.d (f t)) (M ++ [some (.l ((s ++ [t]).map f))]) :=
  idx_cell last_get (by rw [List.map_append]; exact atI_neg1)
theorem div_small {a b : Int} (ha : Small a) (hb : 0 < b) : Small (a / b) := by
  refine ⟨Int.ediv_nonneg ha.1 (by omega), ?_⟩
  have := Int.ediv_le_self b ha.1
  omega
theorem div_m {j : Int} (h : Small j) : divOk j = true := by
  unfold divOk
  by_cases h0 : j.natAbs = 0
  · rw [h0]; rfl
  · have h2 : j.natAbs < 2 ^ 62 := by have := h.1; have := h.2; omega
    have : j.natAbs.log2 < 62 := (Nat.log2_lt h0).mpr h2
    rw [Bool.or_eq_true, decide_eq_true_eq, decide_eq_true_eq]
    exact .inr (by omega)
theorem tup_cell {xs : List D} {M : Mem} : tupleOp [.cell M.length] (M ++ [some (.l xs)]) = .ok (.d (.tup xs)) (M ++ [some (.l xs)]) := by
  have e : lstOf (M ++ [some (.l xs)]) (.cell M.length) = some xs := by
    show (match (M ++ [some (MC.l xs)])[M.length]? with | some (some (.l xs)) => some xs | _ => none) = _
    rw [last_get]
  unfold tupleOp
  simp only [e]
theorem r_dL {v : D} {M X : Mem} : endK M.length (.ret (.d v)) (M ++ X) = .ok (.d v) M := by
  show Out.ok (AV.d v) ((M ++ X).take M.length) = _
  rw [List.take_left]
theorem tup_fr {xs : List D} {M : Mem} : tupleOp [.fr xs] M = .ok (.d (.tup xs)) M := rfl
theorem tup_lst {xs : List D} {M : Mem} : tupleOp [.d (.lst xs)] M = .ok (.d (.tup xs)) M := rfl
abbrev tis (cs : List (List Int)) : D := .tup (cs.map ti)
theorem flats_tis : ∀ c : List (List Int), D.flats (c.map ti) = true
  | [] => rfl
  | a :: r => by
    show (D.flats (a.map .int) && D.flats (r.map ti)) = true
    rw [flats_tis r, flats_ti a]
    rfl
theorem canLay_tis : ∀ c : List (List Int), PyData.canLayAll0 (D.pys (c.map ti)) = true
  | [] => rfl
  | a :: r => by
    show (PyData.canLayAll0 (D.pys (a.map .int)) && PyData.canLayAll0 (D.pys (r.map ti))) = true
    rw [canLay_tis r, canLay_ti a]
    rfl
theorem depth_tis : ∀ c : List (List Int), PyData.depthAll (D.pys (c.map ti)) ≤ 1
  | [] => by decide
  | a :: r => by
    show max (PyData.depthAll (D.pys (a.map .int)) + 1) (PyData.depthAll (D.pys (r.map ti))) ≤ 1
    have := depth_tis r
    rw [depth_ti a]
    omega
theorem ok_tis (c : List (List Int)) : (tis c).ok = true := by
  show (D.flats (c.map ti) && (PyData.canLayAll0 (D.pys (c.map ti)) && decide (PyData.depthAll (D.pys (c.map ti)) + 1 ≤ 64))) = true
  have := depth_tis c
  rw [flats_tis, canLay_tis, decide_eq_true (by omega)]
  rfl
theorem oddI {a : Int} {n : Nat} {M : Mem} : F_law_odd (n + 1) [.d (.int a)] M = .ok (.d (.bl false)) M := by
  rw [F_law_odd]
  refine e_fn rfl ?_
  unfold T_law_odd
  repeat' (first | (wtm_at "mpA") | (wtm_at "mp2"))
theorem oddL {ds : List D} {n : Nat} {M : Mem} (ho : (D.tup ds).ok = true) (hl : ds.length ≤ 90000) (h : ∀ d ∈ ds, ∀ M, F_law_odd n [.d d] M = .ok (.d (.bl false)) M) : F_law_odd (n + 1) [.d (.tup ds)] M = .ok (.d (.bl false)) M := by
  have hl2 : ds.length ≤ 1000000 := by omega
  have e : D.eqv (.tup ds) (.str "a word that nothing else is") = false := rfl
  rw [F_law_odd]
  refine e_fn rfl ?_
  unfold T_law_odd
  repeat' (first | (wtm_at "mpA") | (with_reducible refine p_eq ho (ok_str (by decide +kernel)) ?_) | (wtm_at "mp0"))
  refine e_compE (fun d => d) (fun _ => false) (fun d hd => ?_) hl2 ?_
  · refine ⟨_, rfl, ?_, fun h => absurd h (by decide)⟩
    refine el_start ?_
    repeat' (first | (wtm_at "mpA") | (with_reducible apply e_call (h d hd _)) | (wtm_at "mp1"))
    rfl
  · have e0 : (ds.filter fun _ => false).map (fun d => d) = [] := by simp
    rw [e0]
    repeat' (first | (wtm_at "mpA") | (wtm_at "mp1"))
theorem odd_ti {c : List Int} {n : Nat} {M : Mem} (hl : c.length ≤ 90000) : F_law_odd (n + 2) [.d (ti c)] M = .ok (.d (.bl false)) M := by
  refine oddL (ok_ti c) (by simpa using hl) fun d hd M => ?_
  obtain ⟨b, hb, rfl⟩ := List.mem_map.mp hd
  exact oddI
theorem odd_tis {c : List (List Int)} {n : Nat} {M : Mem} (hl : c.length ≤ 90000) (h2 : ∀ a ∈ c, a.length ≤ 90000) : F_law_odd (n + 3) [.d (tis c)] M = .ok (.d (.bl false)) M := by
  refine oddL (ok_tis c) (by simpa using hl) fun d hd M => ?_
  obtain ⟨b, hb, rfl⟩ := List.mem_map.mp hd
  exact odd_ti (h2 b hb)
theorem sameI {a b : Int} {n : Nat} {M : Mem} : F_law_same (n + 1) [.d (.int a), .d (.int b)] M = .ok (.d (.bl (decide (a = b)))) M := by
  rw [F_law_same]
  refine e_fn rfl ?_
  unfold T_law_same
  repeat' (first | (wtm_at "mpA") | (with_reducible refine e_call whole ?_) | (wtm_at "mp1"))
theorem sameL {ds : List D} {n : Nat} {M : Mem} (hl : ds.length ≤ 90000) (h : ∀ d ∈ ds, ∀ M, F_law_same n [.d d, .d d] M = .ok (.d (.bl true)) M) : F_law_same (n + 1) [.d (.tup ds), .d (.tup ds)] M = .ok (.d (.bl true)) M := by
  have hl2 : ds.length ≤ 1000000 := by omega
  rw [F_law_same]
  refine e_fn rfl ?_
  unfold T_law_same
  repeat' (first | (wtm_at "mpA") | (wtm_at "mp0"))
  refine e_compE (fun _ => .bl true) (fun _ => true) (fun d hd => ?_) (by unfold rngL; simpa using hl2) ?_
  · obtain ⟨k, hk, rfl⟩ := rngL_mem hd
    have i1 : ∀ M, idx (.d (.tup ds)) (.d (.int (0 + k))) M = .ok (.d ds[k]) M := fun M => idx_tup (atI_int (by omega) (by rw [show ((0 : Int) + k).toNat = k by omega]; exact List.getElem?_eq_getElem hk))
    refine ⟨_, rfl, rfl, fun _ => ⟨.d (.bl true), el_start ?_, rfl⟩⟩
    repeat' (first | (wtm_at "mpA") | (with_reducible apply p_idx (i1 _)) | (with_reducible apply e_call (h _ (List.getElem_mem hk) _)) | (wtm_at "mp0"))
    rfl
  · have e : ((rngL 0 ds.length).filter fun _ => true).map (fun _ => D.bl true) = ((List.range ds.length).map fun _ => true).map D.bl := by
      rw [List.filter_eq_self.mpr (fun _ _ => rfl)]
      unfold rngL
      rw [List.map_map, List.map_map]
      rfl
    dsimp only
    rw [e]
    repeat' (first | (wtm_at "mpA") | (with_reducible apply e_call all_bls) | (wtm_at "mp1"))
    refine r_d.trans ?_
    simp
theorem same_ti {c : List Int} {n : Nat} {M : Mem} (hl : c.length ≤ 90000) : F_law_same (n + 2) [.d (ti c), .d (ti c)] M = .ok (.d (.bl true)) M := by
  refine sameL (by simpa using hl) fun d hd M => ?_
  obtain ⟨b, hb, rfl⟩ := List.mem_map.mp hd
  rw [sameI, decide_eq_true rfl]
theorem same_tis {c : List (List Int)} {n : Nat} {M : Mem} (hl : c.length ≤ 90000) (h2 : ∀ a ∈ c, a.length ≤ 90000) : F_law_same (n + 3) [.d (tis c), .d (tis c)] M = .ok (.d (.bl true)) M := by
  refine sameL (by simpa using hl) fun d hd M => ?_
  obtain ⟨b, hb, rfl⟩ := List.mem_map.mp hd
  exact same_ti (h2 b hb)
theorem sameW {x : Str} {n : Nat} {M : Mem} (h : (PyData.str x).canLay0 = true) : F_law_same (n + 1) [.d (.str x), .d (.str x)] M = .ok (.d (.bl true)) M := by
  have e : D.eqv (.str x) (.str x) = true := by
    show (x == x) = true
    exact beq_self_eq_true x
  rw [F_law_same]
  refine e_fn rfl ?_
  unfold T_law_same
  repeat' (first | (wtm_at "mpA") | (with_reducible refine e_call whole ?_) | (with_reducible refine p_eq (ok_str h) (ok_str h) ?_) | (wtm_at "mp1"))
  rw [e]
  exact r_d
theorem sameN {n : Nat} {M : Mem} : F_law_same (n + 1) [.d .non, .d .non] M = .ok (.d (.bl true)) M := by
  rw [F_law_same]
  refine e_fn rfl ?_
  unfold T_law_same
  repeat' (first | (wtm_at "mpA") | (wtm_at "mp1"))
theorem same_two {a b : D} {n : Nat} {M : Mem} (h1 : ∀ M, F_law_same (n + 1) [.d a, .d a] M = .ok (.d (.bl true)) M) (h2 : ∀ M, F_law_same (n + 1) [.d b, .d b] M = .ok (.d (.bl true)) M) : F_law_same (n + 2) [.d (.tup [a, b]), .d (.tup [a, b])] M = .ok (.d (.bl true)) M := by
  refine sameL (by simp) fun d hd M => ?_
  rcases List.mem_cons.mp hd with rfl | hd
  · exact h1 M
  · rw [List.mem_singleton.mp hd]; exact h2 M
theorem same_told {v : D} {n : Nat} {M : Mem} (h : ∀ M, F_law_same (n + 1) [.d v, .d v] M = .ok (.d (.bl true)) M) : F_law_same (n + 2) [.d (.tup [.str "told", v]), .d (.tup [.str "told", v])] M = .ok (.d (.bl true)) M :=
  same_two (fun _ => sameW (by decide +kernel)) h
theorem same_mal {n : Nat} {M : Mem} : F_law_same (n + 2) [.d (.tup [.str "malformed", .non]), .d (.tup [.str "malformed", .non])] M = .ok (.d (.bl true)) M :=
  same_two (fun _ => sameW (by decide +kernel)) fun _ => sameN
theorem same_large {n : Nat} {M : Mem} : F_law_same (n + 2) [.d (.tup [.str "refused", .str "large"]), .d (.tup [.str "refused", .str "large"])] M = .ok (.d (.bl true)) M :=
  same_two (fun _ => sameW (by decide +kernel)) fun _ => sameW (by decide +kernel)

theorem cls_pos {x : Int} {r : List Int} (h : clsB x r = true) : (0 < x ∧ x ≤ 1000) ∧ ∀ b ∈ r, 0 < b ∧ b ≤ 1000 := by
  unfold clsB at h
  simp only [Bool.or_eq_true, Bool.and_eq_true, decide_eq_true_eq] at h
  rcases h with h | ⟨h1, h2, h3, -⟩
  · cases h
    exact ⟨by omega, fun _ h => nomatch h⟩
  · have f := asc_facts h3
    refine ⟨by omega, fun b hb => ?_⟩
    have := f.1 b hb
    omega
theorem cls_sm {x : Int} {r : List Int} (h : clsB x r = true) : Small x ∧ ∀ b ∈ r, Small b := by
  have h := cls_pos h
  exact ⟨⟨by omega, by omega⟩, fun b hb => by have := h.2 b hb; exact ⟨by omega, by omega⟩⟩
abbrev xM : Exc := ⟨"Malformed", []⟩
theorem chk_ok {v : D} {M : Mem} (h : Fis_class [.d v] M = .ok (.d (.bl true)) M) : Fcheck_class [.d v] M = .ok (.d .non) M := by
  unfold Fcheck_class
  refine e_fn rfl ?_
  unfold Tcheck_class
  repeat' (first | (wtm_at "mpA") | (with_reducible apply e_call h) | (wtm_at "mp1"))
theorem chk_no {v : D} {M : Mem} (h : Fis_class [.d v] M = .ok (.d (.bl false)) M) : Fcheck_class [.d v] M = .exc ⟨"Malformed", []⟩ M := by
  unfold Fcheck_class
  refine e_fn rfl ?_
  unfold Tcheck_class
  repeat' (first | (wtm_at "mpA") | (with_reducible apply e_call h) | (wtm_at "mp1"))
theorem hon {v : D} {M : Mem} (h : F_law_odd 8 [.d v] M = .ok (.d (.bl false)) M) : F_law_honest [.d v] M = .ok (.d v) M := by
  unfold F_law_honest
  refine e_fn rfl ?_
  unfold T_law_honest
  repeat' (first | (wtm_at "mpA") | (with_reducible apply e_call h) | (wtm_at "mp1"))
theorem hd_mal : hdRun ctE ⟨"Malformed", []⟩ [("Malformed", (xTup2 (fun _ => some (.str "malformed")) (fun _ => some .non))), ("Refused", (xTup2 (fun _ => some (.str "refused")) (xFld "Refused" "reason")))] = some (some (.tup [.str "malformed", .non])) := by decide +kernel
theorem hd_large : hdRun ctE ⟨"Refused", [("reason", .str "large")]⟩ [("Malformed", (xTup2 (fun _ => some (.str "malformed")) (fun _ => some .non))), ("Refused", (xTup2 (fun _ => some (.str "refused")) (xFld "Refused" "reason")))] = some (some (.tup [.str "refused", .str "large"])) := by decide +kernel
abbrev P2 := Int × Int
abbrev pv (ps : List P2) : D := .tup (ps.map fun t => .tup [.int t.1, .int t.2])
def prodP (ps : List P2) : Int := ps.foldl (fun s t => s * t.1) 1
def fromF (s : Int × Int × List Int) (t : P2) : Int × Int × List Int := (s.1 / t.1, s.2.1 + t.2 * (s.1 / t.1), s.2.2 ++ [s.2.1 + t.2 * (s.1 / t.1)])
def fromL (ps : List P2) : List Int := (ps.foldl fromF (prodP ps, 0, [prodP ps])).2.2
def Bp (ps : List P2) : Prop := ∀ t ∈ ps, (1 ≤ t.1 ∧ t.1 ≤ 1000) ∧ (-1000000 ≤ t.2 ∧ t.2 ≤ 1000000)
theorem pv_get {ps : List P2} {i : Nat} {d : D} (h : (ps.map fun t : P2 => D.tup [.int t.1, .int t.2])[i]? = some d) : ∃ t, t ∈ ps ∧ i < ps.length ∧ d = .tup [.int t.1, .int t.2] := by
  rw [List.getElem?_map] at h
  cases e : ps[i]? with
  | none => rw [e] at h; cases h
  | some t =>
    rw [e] at h
    cases h
    exact ⟨t, List.mem_of_getElem? e, (List.getElem?_eq_some_iff.mp e).1, rfl⟩
theorem fromL_len (ps : List P2) : ∃ r, fromL ps = prodP ps :: r ∧ r.length = ps.length := by
  have h : ∀ (l : List P2) (a b : Int) (x : Int) (r : List Int), ∃ q, (l.foldl fromF (a, b, x :: r)).2.2 = x :: q ∧ q.length = r.length + l.length := by
    intro l
    induction l with
    | nil => intro a b x r; exact ⟨r, rfl, rfl⟩
    | cons t l ih =>
      intro a b x r
      obtain ⟨q, h1, h2⟩ := ih (a / t.1) (b + t.2 * (a / t.1)) x (r ++ [b + t.2 * (a / t.1)])
      exact ⟨q, h1, by rw [h2]; simp; omega⟩
  obtain ⟨q, h1, h2⟩ := h ps (prodP ps) 0 (prodP ps) []
  exact ⟨q, h1, by simpa using h2⟩
theorem lfrom_ok {ps : List P2} {M : Mem} (hb : Bp ps) (hl : ps.length ≤ 90000) : F_law_from_pairs [.d (pv ps)] M = .ok (.d (ti (fromL ps))) M := by
  have hl2 : (ps.map fun t : P2 => D.tup [.int t.1, .int t.2]).length ≤ 1000000 := by simp; omega
  unfold F_law_from_pairs
  refine e_fn rfl ?_
  unfold T_law_from_pairs
  repeat' (first | (wtm_at "mpA") | (wtm_at "mp0"))
  refine e_foldI (fun i (s : Int) env M' => M' = M ∧ ∃ o2 o3 o4 o5, env = [some (.d (pv ps)), some (.d (.int s)), o2, o3, o4, o5])
    (fun s d => match d with | .tup [.int p, .int _] => s * p | _ => s) 1 ⟨rfl, _, _, _, _, rfl⟩ (fun k d hd s env M' h => ?_) (fun env M' h => ?_)
  · obtain ⟨t, ht, hk, rfl⟩ := pv_get hd
    obtain ⟨rfl, o2, o3, o4, o5, rfl⟩ := h
    have hb := hb t ht
    refine ⟨_, [some (.d (pv ps)), some (.d (.int (s * t.1))), some (.d (.int t.1)), some (.d (.int t.2)), o4, o5], M', rfl, el_start ?_, rfl, _, _, _, _, rfl⟩
    repeat' (first | (wtm_at "mpA") | (wtm_at "mp1"))
    rfl
  · obtain ⟨rfl, o2, o3, o4, o5, rfl⟩ := h
    rw [List.foldl_map]
    have e1 : (ps.foldl (fun s (t : P2) => match D.tup [.int t.1, .int t.2] with | .tup [.int p, .int _] => s * p | _ => s) (1 : Int)) = prodP ps := rfl
    rw [e1]
    repeat' (first | (wtm_at "mpA") | (wtm_at "mp0"))
    refine e_foldI (fun i (s : Int × Int × List Int) env M'' => s.2.2.length = i + 1 ∧ M'' = M' ++ [some (.l (s.2.2.map .int))] ∧ ∃ o2 o3, env = [some (.d (pv ps)), some (.d (.int s.1)), o2, o3, some (.cell M'.length), some (.d (.int s.2.1))])
      (fun s d => match d with | .tup [.int p, .int q] => fromF s (p, q) | _ => s) (prodP ps, 0, [prodP ps]) ⟨rfl, rfl, _, _, rfl⟩ (fun k d hd s env M'' h => ?_) (fun env M'' h => ?_)
    · obtain ⟨t, ht, hk, rfl⟩ := pv_get hd
      obtain ⟨h1, rfl, o2, o3, rfl⟩ := h
      have hb := hb t ht
      have hll : (s.2.2.map D.int).length < 1000000 := by rw [List.length_map]; omega
      refine ⟨_, [some (.d (pv ps)), some (.d (.int (s.1 / t.1))), some (.d (.int t.1)), some (.d (.int t.2)), some (.cell M'.length), some (.d (.int (s.2.1 + t.2 * (s.1 / t.1))))], M' ++ [some (.l ((fromF s t).2.2.map .int))], rfl, el_start ?_, by unfold fromF; simp [h1], rfl, _, _, rfl⟩
      repeat' (first | (wtm_at "mpA") | (with_reducible refine m_appL hll ?_) | (wtm_at "mp1"))
      unfold fromF
      dsimp only
      rw [List.map_append]
      rfl
    · obtain ⟨h1, rfl, o2, o3, rfl⟩ := h
      rw [List.foldl_map]
      have e2 : (ps.foldl (fun s (t : P2) => match D.tup [.int t.1, .int t.2] with | .tup [.int p, .int q] => fromF s (p, q) | _ => s) (prodP ps, 0, [prodP ps])).2.2 = fromL ps := rfl
      repeat' (first | (wtm_at "mpA") | (with_reducible apply e_call tup_cell) | (wtm_at "mp1"))
      refine r_dL.trans ?_
      rw [e2]

abbrev St (a b : Int) (Mt : Mem) : Mem := some (.l [.int a, .int b]) :: Mt
theorem r_dT {v : D} {x y : Option MC} {Mt : Mem} : endK (x :: Mt).length (.ret (.d v)) (y :: Mt) = .ok (.d v) (y :: Mt) := by
  show Out.ok (AV.d v) ((y :: Mt).take (x :: Mt).length) = _
  rw [List.take_of_length_le (by simp)]
theorem take_ok {m a b : Int} {Mt : Mem} (hm : 1 ≤ m ∧ m ≤ 1000000) : ∃ r a' b', F_law_take [.cell 0, .d (.int m)] (St a b Mt) = .ok (.d (.int r)) (St a' b' Mt) ∧ 0 ≤ r ∧ r < m := by
  by_cases h : 0 < a
  · refine ⟨a % m, a / m, b, ?_, Int.emod_nonneg a (b := m) (by omega), Int.emod_lt_of_pos a (by omega)⟩
    unfold F_law_take
    refine e_fn rfl ?_
    unfold T_law_take
    repeat' (first | (wtm_at "mpA") | (wtm_at "mp2"))
    exact r_dT
  · refine ⟨_, a, (b * 48271 + 11) % 2147483647, ?_, Int.emod_nonneg (((b * 48271 + 11) % 2147483647) / 7) (b := m) (by omega), Int.emod_lt_of_pos _ (by omega)⟩
    unfold F_law_take
    refine e_fn rfl ?_
    unfold T_law_take
    repeat' (first | (wtm_at "mpA") | (wtm_at "mp2"))
    exact r_dT
def Bdp : SS :=
 (sSeq2 (sAsg 5 false (sIdx (sLst (sCons (sCon (.int 2)) (sCons (sCon (.int 2)) (sCons (sCon (.int 3)) (sCons (sCon (.int 2)) (sCons (sCon (.int 3)) (sCons (sCon (.int 4)) (sCons (sCon (.int 5)) (sCons (sCon (.int 6)) (sCons (sCon (.int 7)) sNil)))))))))) (sArgs F_law_take (sCons (sVar 0) (sCons (sCon (.int 9)) sNil)))))
 (sSeq2 (sIfS (sB (sCmp .LtE (sBin .Mult (sVar 4) (sVar 5)) (sVar 1)))
 (sSeq2 (sAsg 6 false (sBin .Add (sBin .Add (sCon (.int 1)) (sArgs F_law_take (sCons (sVar 0) (sCons (sIdx (sLst (sCons (sCon (.int 4)) (sCons (sCon (.int 4)) (sCons (sCon (.int 9)) sNil)))) (sArgs F_law_take (sCons (sVar 0) (sCons (sCon (.int 3)) sNil)))) sNil)))) (sIf (sB (sCmp .Eq (sArgs lenOp (sCons (sVar 3) sNil)) (sCon (.int 0)))) (sVar 5) (sCon (.int 0)))))
 (sSeq2 (sWhile (sB (sCmp .Gt (sArgs F_law_common (sCons (sVar 5) (sCons (sVar 6) sNil))) (sCon (.int 1))))
 (sSeq2 (sAsg 6 false (sBin .Add (sVar 6) (sCon (.int 1))))
 sSkip))
 (sSeq2 (sExpr (sMeth mAppend (sVar 3) (sCons (sTup (sCons (sVar 5) (sCons (sVar 6) sNil))) sNil)))
 (sSeq2 (sAsg 4 false (sBin .Mult (sVar 4) (sVar 5)))
 sSkip))))
 sSkip)
 sSkip))
theorem gcd1 (p k : Int) : Int.gcd p (1 + p * k) = 1 := by simp
def qs (p q : Int) : Int := q + (1 - q) % p
theorem qs_gcd (p q : Int) : Int.gcd p (qs p q) = 1 := by
  have e : qs p q = 1 + p * (-((1 - q) / p)) := by
    unfold qs
    rw [Int.emod_def, Int.mul_neg]
    omega
  rw [e, gcd1]
theorem mapp {β : Type} {res : Out β} {k : AV → Mem → Out β} {a b : Int} {Mt : Mem} {xs : List D} {x : D} (hl : xs.length < 1000000) (h : k (.d .non) (St a b (Mt ++ [some (.l (xs ++ [x]))])) = res) : mK mAppend (.cell (Mt.length + 1)) [.d x] (St a b (Mt ++ [some (.l xs)])) k = res :=
  m_appL (M := St a b Mt) hl h
theorem gkc {a b : Int} {Mt : Mem} {xs : List D} : (cellOf? (St a b (Mt ++ [some (.l xs)])) (.cell (Mt.length + 1))).isSome = true := by
  simp [cellOf?]
theorem len_c {a b : Int} {Mt : Mem} {xs : List D} : lenOp [.cell (Mt.length + 1)] (St a b (Mt ++ [some (.l xs)])) = .ok (.d (.int xs.length)) (St a b (Mt ++ [some (.l xs)])) := by
  unfold lenOp
  simp [lstOf]
theorem idx9 {r : Int} (h : 0 ≤ r ∧ r < 9) : ∃ p : Int, (2 ≤ p ∧ p ≤ 7) ∧ ∀ M, idx (.fr [.int 2, .int 2, .int 3, .int 2, .int 3, .int 4, .int 5, .int 6, .int 7]) (.d (.int r)) M = .ok (.d (.int p)) M := by
  have : r = 0 ∨ r = 1 ∨ r = 2 ∨ r = 3 ∨ r = 4 ∨ r = 5 ∨ r = 6 ∨ r = 7 ∨ r = 8 := by omega
  rcases this with rfl | rfl | rfl | rfl | rfl | rfl | rfl | rfl | rfl
  · exact ⟨2, by decide, fun _ => rfl⟩
  · exact ⟨2, by decide, fun _ => rfl⟩
  · exact ⟨3, by decide, fun _ => rfl⟩
  · exact ⟨2, by decide, fun _ => rfl⟩
  · exact ⟨3, by decide, fun _ => rfl⟩
  · exact ⟨4, by decide, fun _ => rfl⟩
  · exact ⟨5, by decide, fun _ => rfl⟩
  · exact ⟨6, by decide, fun _ => rfl⟩
  · exact ⟨7, by decide, fun _ => rfl⟩
theorem idx3 {r : Int} (h : 0 ≤ r ∧ r < 3) : ∃ p : Int, (1 ≤ p ∧ p ≤ 9) ∧ ∀ M, idx (.fr [.int 4, .int 4, .int 9]) (.d (.int r)) M = .ok (.d (.int p)) M := by
  have : r = 0 ∨ r = 1 ∨ r = 2 := by omega
  rcases this with rfl | rfl | rfl
  · exact ⟨4, by decide, fun _ => rfl⟩
  · exact ⟨4, by decide, fun _ => rfl⟩
  · exact ⟨9, by decide, fun _ => rfl⟩
def fstq (p : Int) : Nat → Int → Int
  | 0, q => q
  | n + 1, q => if Int.gcd p q = 1 then q else fstq p n (q + 1)
theorem fstq_in (p : Int) : ∀ n q, q ≤ fstq p n q ∧ fstq p n q ≤ q + n
  | 0, q => by unfold fstq; omega
  | n + 1, q => by
    unfold fstq
    have := fstq_in p n (q + 1)
    split <;> omega
theorem fstq_gcd {p Q : Int} : ∀ (n : Nat) (q : Int), q ≤ qs p Q → qs p Q ≤ q + n → Int.gcd p (fstq p n q) = 1
  | 0, q, h1, h2 => by
    have e : q = qs p Q := by omega
    unfold fstq
    rw [e, qs_gcd]
  | n + 1, q, h1, h2 => by
    unfold fstq
    by_cases h : Int.gcd p q = 1
    · rw [if_pos h]; exact h
    · rw [if_neg h]
      have : q ≠ qs p Q := fun z => h (by rw [z, qs_gcd])
      exact fstq_gcd (Q := Q) n (q + 1) (by omega) (by omega)
theorem fstq_one {p q : Int} (h : Int.gcd p q = 1) : ∀ n, fstq p n q = q
  | 0 => rfl
  | n + 1 => by unfold fstq; rw [if_pos h]
theorem bodyD {a b most prod : Int} {Mt : Mem} {ps : List P2} {o2 o5 o6 : Option AV} (hl : ps.length ≤ 10) :
    ∃ a' b' ps' prod' o5' o6', Bdp [some (.cell 0), some (.d (.int most)), o2, some (.cell (Mt.length + 1)), some (.d (.int prod)), o5, o6] (St a b (Mt ++ [some (.l (ps.map fun t : P2 => .tup [.int t.1, .int t.2]))])) =
      .ok (.next [some (.cell 0), some (.d (.int most)), o2, some (.cell (Mt.length + 1)), some (.d (.int prod')), o5', o6']) (St a' b' (Mt ++ [some (.l (ps'.map fun t : P2 => .tup [.int t.1, .int t.2]))])) ∧
      (ps' = ps ∨ ∃ p q : Int, ps' = ps ++ [(p, q)] ∧ (2 ≤ p ∧ p ≤ 7) ∧ (1 ≤ q ∧ q ≤ 40) ∧ Int.gcd p q = 1 ∧ (ps = [] → p ≤ q)) := by
  have hln : ((ps.map fun t : P2 => D.tup [.int t.1, .int t.2]).length : Int) = ps.length := by simp
  have hll : (ps.map fun t : P2 => D.tup [.int t.1, .int t.2]).length < 1000000 := by simp; omega
  obtain ⟨r1, a1, b1, e1, g1⟩ := take_ok (a := a) (b := b) (Mt := Mt ++ [some (.l (ps.map fun t : P2 => .tup [.int t.1, .int t.2]))]) (m := 9) (by omega)
  obtain ⟨p, gp, ep⟩ := idx9 g1
  by_cases hm : prod * p ≤ most
  · obtain ⟨r2, a2, b2, e2, g2⟩ := take_ok (a := a1) (b := b1) (Mt := Mt ++ [some (.l (ps.map fun t : P2 => .tup [.int t.1, .int t.2]))]) (m := 3) (by omega)
    obtain ⟨m3, gm, em⟩ := idx3 g2
    obtain ⟨r3, a3, b3, e3, g3⟩ := take_ok (a := a2) (b := b2) (Mt := Mt ++ [some (.l (ps.map fun t : P2 => .tup [.int t.1, .int t.2]))]) (m := m3) (by omega)
    by_cases hps : ps.length = 0
    · obtain ⟨Q, eQ⟩ : ∃ Q, Q = 1 + r3 + p := ⟨_, rfl⟩
      have hq : Q ≤ qs p Q ∧ qs p Q ≤ Q + (8 : Nat) := by
        have := Int.emod_nonneg (1 - Q) (b := p) (by omega)
        have := Int.emod_lt_of_pos (1 - Q) (b := p) (by omega)
        unfold qs
        omega
      have hF := fstq_in p 8 Q
      have hG := fstq_gcd 8 Q hq.1 hq.2
      have hQ : 1 ≤ Q ∧ Q ≤ 20 := by omega
      refine ⟨a3, b3, ps ++ [(p, fstq p 8 Q)], prod * p, some (.d (.int p)), some (.d (.int (fstq p 8 Q))), el_start ?_, .inr ⟨p, fstq p 8 Q, rfl, gp, by omega, hG, ?_⟩⟩
      · unfold Bdp
        repeat' (first | (wtm_at "mpA") | (with_reducible apply e_call e1) | (with_reducible apply p_idx (ep _)) | (with_reducible apply e_call e2) | (with_reducible apply p_idx (em _)) | (with_reducible apply e_call e3) | (with_reducible apply e_call len_c) | (wtm_at "mp1"))
        refine e_while (fun env M' => M' = St a3 b3 (Mt ++ [some (.l (ps.map fun t : P2 => .tup [.int t.1, .int t.2]))]) ∧ ∃ (n : Nat) (q : Int), n ≤ 8 ∧ fstq p n q = fstq p 8 Q ∧ Q ≤ q ∧ q ≤ qs p Q ∧ qs p Q ≤ q + n ∧ env = [some (.cell 0), some (.d (.int most)), o2, some (.cell (Mt.length + 1)), some (.d (.int prod)), some (.d (.int p)), some (.d (.int q))])
          (fun env M' => M' = St a3 b3 (Mt ++ [some (.l (ps.map fun t : P2 => .tup [.int t.1, .int t.2]))]) ∧ env = [some (.cell 0), some (.d (.int most)), o2, some (.cell (Mt.length + 1)), some (.d (.int prod)), some (.d (.int p)), some (.d (.int (fstq p 8 Q)))])
          (fun env _ => match env with | [_, _, _, _, _, _, some (.d (.int q))] => (40 - q).toNat | _ => 0) ⟨rfl, 8, Q, by omega, rfl, by omega, hq.1, hq.2, ?_⟩ (fun env M' h => ?_) ?_ (fun env M' h => ?_)
        · rw [eQ]; rfl
        · obtain ⟨rfl, n, q, hn, h1, h2, h3, h4, rfl⟩ := h
          have ec : ∀ M, F_law_common [.d (.int p), .d (.int q)] M = .ok (.d (.int (Int.gcd p q))) M := fun M => common_ok (by omega) (by omega) (by omega)
          by_cases hz : Int.gcd p q = 1
          · refine .inl ⟨el_start ?_, rfl, ?_⟩
            · rw [hz] at ec
              repeat' (first | (wtm_at "mpA") | (with_reducible apply e_call (ec _)) | (wtm_at "mp1"))
              rfl
            · rw [← h1, fstq_one hz]
          · have hne : q ≠ qs p Q := fun z => hz (by rw [z, qs_gcd])
            have hg1 : (1 : Int) < (Int.gcd p q : Int) := by
              have : Int.gcd p q ≠ 0 := fun z => by have := Int.gcd_eq_zero_iff.mp z; omega
              omega
            refine .inr ⟨el_start ?_, [some (.cell 0), some (.d (.int most)), o2, some (.cell (Mt.length + 1)), some (.d (.int prod)), some (.d (.int p)), some (.d (.int (q + 1)))], St a3 b3 (Mt ++ [some (.l (ps.map fun t : P2 => .tup [.int t.1, .int t.2]))]), el_start ?_, ⟨rfl, n - 1, q + 1, by omega, ?_, by omega, by omega, by omega, rfl⟩, ?_⟩
            · repeat' (first | (wtm_at "mpA") | (with_reducible apply e_call (ec _)) | (wtm_at "mp1"))
              rw [decide_eq_true hg1]
            · repeat' (first | (wtm_at "mpA") | (wtm_at "mp1"))
              rfl
            · rw [← h1]
              cases n with
              | zero => omega
              | succ n =>
                show fstq p n (q + 1) = fstq p (n + 1) q
                rw [fstq, if_neg hz]
            · show (40 - (q + 1)).toNat < (40 - q).toNat
              omega
        · show (40 - _ : Int).toNat < 2 ^ 200
          omega
        · obtain ⟨rfl, rfl⟩ := h
          rw [List.map_append]
          repeat' (first | (wtm_at "mpA") | (with_reducible refine gk_t gkc ?_) | (with_reducible refine mapp hll ?_) | (wtm_at "mp1"))
          rfl
      · intro _; omega
    · obtain ⟨Q, eQ⟩ : ∃ Q, Q = 1 + r3 + 0 := ⟨_, rfl⟩
      have hq : Q ≤ qs p Q ∧ qs p Q ≤ Q + (8 : Nat) := by
        have := Int.emod_nonneg (1 - Q) (b := p) (by omega)
        have := Int.emod_lt_of_pos (1 - Q) (b := p) (by omega)
        unfold qs
        omega
      have hF := fstq_in p 8 Q
      have hG := fstq_gcd 8 Q hq.1 hq.2
      have hQ : 1 ≤ Q ∧ Q ≤ 20 := by omega
      refine ⟨a3, b3, ps ++ [(p, fstq p 8 Q)], prod * p, some (.d (.int p)), some (.d (.int (fstq p 8 Q))), el_start ?_, .inr ⟨p, fstq p 8 Q, rfl, gp, by omega, hG, ?_⟩⟩
      · unfold Bdp
        repeat' (first | (wtm_at "mpA") | (with_reducible apply e_call e1) | (with_reducible apply p_idx (ep _)) | (with_reducible apply e_call e2) | (with_reducible apply p_idx (em _)) | (with_reducible apply e_call e3) | (with_reducible apply e_call len_c) | (wtm_at "mp1"))
        refine e_while (fun env M' => M' = St a3 b3 (Mt ++ [some (.l (ps.map fun t : P2 => .tup [.int t.1, .int t.2]))]) ∧ ∃ (n : Nat) (q : Int), n ≤ 8 ∧ fstq p n q = fstq p 8 Q ∧ Q ≤ q ∧ q ≤ qs p Q ∧ qs p Q ≤ q + n ∧ env = [some (.cell 0), some (.d (.int most)), o2, some (.cell (Mt.length + 1)), some (.d (.int prod)), some (.d (.int p)), some (.d (.int q))])
          (fun env M' => M' = St a3 b3 (Mt ++ [some (.l (ps.map fun t : P2 => .tup [.int t.1, .int t.2]))]) ∧ env = [some (.cell 0), some (.d (.int most)), o2, some (.cell (Mt.length + 1)), some (.d (.int prod)), some (.d (.int p)), some (.d (.int (fstq p 8 Q)))])
          (fun env _ => match env with | [_, _, _, _, _, _, some (.d (.int q))] => (40 - q).toNat | _ => 0) ⟨rfl, 8, Q, by omega, rfl, by omega, hq.1, hq.2, ?_⟩ (fun env M' h => ?_) ?_ (fun env M' h => ?_)
        · rw [eQ]; rfl
        · obtain ⟨rfl, n, q, hn, h1, h2, h3, h4, rfl⟩ := h
          have ec : ∀ M, F_law_common [.d (.int p), .d (.int q)] M = .ok (.d (.int (Int.gcd p q))) M := fun M => common_ok (by omega) (by omega) (by omega)
          by_cases hz : Int.gcd p q = 1
          · refine .inl ⟨el_start ?_, rfl, ?_⟩
            · rw [hz] at ec
              repeat' (first | (wtm_at "mpA") | (with_reducible apply e_call (ec _)) | (wtm_at "mp1"))
              rfl
            · rw [← h1, fstq_one hz]
          · have hne : q ≠ qs p Q := fun z => hz (by rw [z, qs_gcd])
            have hg1 : (1 : Int) < (Int.gcd p q : Int) := by
              have : Int.gcd p q ≠ 0 := fun z => by have := Int.gcd_eq_zero_iff.mp z; omega
              omega
            refine .inr ⟨el_start ?_, [some (.cell 0), some (.d (.int most)), o2, some (.cell (Mt.length + 1)), some (.d (.int prod)), some (.d (.int p)), some (.d (.int (q + 1)))], St a3 b3 (Mt ++ [some (.l (ps.map fun t : P2 => .tup [.int t.1, .int t.2]))]), el_start ?_, ⟨rfl, n - 1, q + 1, by omega, ?_, by omega, by omega, by omega, rfl⟩, ?_⟩
            · repeat' (first | (wtm_at "mpA") | (with_reducible apply e_call (ec _)) | (wtm_at "mp1"))
              rw [decide_eq_true hg1]
            · repeat' (first | (wtm_at "mpA") | (wtm_at "mp1"))
              rfl
            · rw [← h1]
              cases n with
              | zero => omega
              | succ n =>
                show fstq p n (q + 1) = fstq p (n + 1) q
                rw [fstq, if_neg hz]
            · show (40 - (q + 1)).toNat < (40 - q).toNat
              omega
        · show (40 - _ : Int).toNat < 2 ^ 200
          omega
        · obtain ⟨rfl, rfl⟩ := h
          rw [List.map_append]
          repeat' (first | (wtm_at "mpA") | (with_reducible refine gk_t gkc ?_) | (with_reducible refine mapp hll ?_) | (wtm_at "mp1"))
          rfl
      · intro z; rw [z] at hps; exact absurd rfl hps
  · refine ⟨a1, b1, ps, prod, some (.d (.int p)), o6, el_start ?_, .inl rfl⟩
    unfold Bdp
    repeat' (first | (wtm_at "mpA") | (with_reducible apply e_call e1) | (with_reducible apply p_idx (ep _)) | (wtm_at "mp1"))
    rfl

def okD (ps : List P2) : Prop := (∀ t ∈ ps, (2 ≤ t.1 ∧ t.1 ≤ 7) ∧ (1 ≤ t.2 ∧ t.2 ≤ 40) ∧ Int.gcd t.1 t.2 = 1) ∧ ∀ t, ps[0]? = some t → t.1 ≤ t.2
theorem okD_add {ps : List P2} {p q : Int} (h : okD ps) (hp : 2 ≤ p ∧ p ≤ 7) (hq : 1 ≤ q ∧ q ≤ 40) (hg : Int.gcd p q = 1) (h0 : ps = [] → p ≤ q) : okD (ps ++ [(p, q)]) := by
  refine ⟨fun t ht => ?_, fun t ht => ?_⟩
  · rcases List.mem_append.mp ht with ht | ht
    · exact h.1 t ht
    · rw [List.mem_singleton.mp ht]; exact ⟨hp, hq, hg⟩
  · cases ps with
    | nil => cases ht; exact h0 rfl
    | cons u r => exact h.2 t ht
theorem okD_init {ps : List P2} (h : okD ps) : okD ps.dropLast := by
  refine ⟨fun t ht => h.1 t (List.dropLast_subset ps ht), fun t ht => h.2 t ?_⟩
  cases ps with
  | nil => exact ht
  | cons u r => cases r with
    | nil => cases ht
    | cons v r => exact ht
def ID (most : Int) (Mt : Mem) (i : Nat) (_ : Unit) (env : Env) (M : Mem) : Prop := ∃ a b ps prod o2 o5 o6, env = [some (.cell 0), some (.d (.int most)), o2, some (.cell (Mt.length + 1)), some (.d (.int prod)), o5, o6] ∧ M = St a b (Mt ++ [some (.l (ps.map fun t : P2 => .tup [.int t.1, .int t.2]))]) ∧ okD ps ∧ ps.length ≤ i
theorem tup_cS {a b : Int} {Mt : Mem} {xs : List D} : tupleOp [.cell (Mt.length + 1)] (St a b (Mt ++ [some (.l xs)])) = .ok (.d (.tup xs)) (St a b (Mt ++ [some (.l xs)])) := tup_cell (M := St a b Mt)
theorem r_dS {v : D} {a b a' b' : Int} {Mt X : Mem} : endK (St a b Mt).length (.ret (.d v)) (St a' b' (Mt ++ X)) = .ok (.d v) (St a' b' Mt) := r_dL (M := St a' b' Mt)
theorem loopD {most a b : Int} {Mt : Mem} {n : Nat} (hn : n ≤ 5) {o2 o5 o6 : Option AV} :
    ∃ a' b' ps prod o2' o5' o6', forL Bdp (.name 2) [] (rngL 0 n) [some (.cell 0), some (.d (.int most)), o2, some (.cell (Mt.length + 1)), some (.d (.int 1)), o5, o6] (St a b (Mt ++ [some (.l [])])) =
      .ok (.next [some (.cell 0), some (.d (.int most)), o2', some (.cell (Mt.length + 1)), some (.d (.int prod)), o5', o6']) (St a' b' (Mt ++ [some (.l (ps.map fun t : P2 => .tup [.int t.1, .int t.2]))])) ∧ okD ps ∧ ps.length ≤ 5 := by
  have st : ∀ i d, (rngL 0 n)[i]? = some d → ∀ (s : Unit) env M, ID most Mt (0 + i) s env M → ∃ e env' M', (Tg.name 2).bind d env = some e ∧ Bdp e M = .ok (.next env') M' ∧ ID most Mt (0 + i + 1) s env' M' := by
    intro i d hd s env M h
    obtain ⟨hi, rfl⟩ := rngL_get hd
    obtain ⟨a1, b1, ps, prod, p2, p5, p6, rfl, rfl, h1, h2⟩ := h
    obtain ⟨a', b', ps', prod', o5', o6', e, h3⟩ := bodyD (a := a1) (b := b1) (most := most) (prod := prod) (Mt := Mt) (ps := ps) (o2 := some (.d (.int ((0 : Int) + i)))) (o5 := p5) (o6 := p6) (by omega)
    refine ⟨_, _, _, rfl, e, a', b', ps', prod', _, o5', o6', rfl, rfl, ?_⟩
    rcases h3 with rfl | ⟨p, q, rfl, g1, g2, g3, g4⟩
    · exact ⟨h1, by omega⟩
    · exact ⟨okD_add h1 g1 g2 g3 g4, by simp; omega⟩
  obtain ⟨env', M', e, q⟩ := for_foldI (I := ID most Mt) (body := Bdp) (tg := .name 2) (fun s _ => s) (rngL 0 n) 0 st () [some (.cell 0), some (.d (.int most)), o2, some (.cell (Mt.length + 1)), some (.d (.int 1)), o5, o6] (St a b (Mt ++ [some (.l [])])) ⟨a, b, [], 1, o2, o5, o6, rfl, rfl, ⟨fun _ h => (nomatch h), fun _ h => (nomatch h)⟩, Nat.le_refl _⟩
  obtain ⟨a', b', ps, prod, o2', o5', o6', rfl, rfl, h1, h2⟩ := q
  have : (rngL 0 n).length = n := by unfold rngL; simp
  exact ⟨a', b', ps, prod, o2', o5', o6', e, h1, by omega⟩
theorem drawnP_ok {most a b : Int} {Mt : Mem} : ∃ ps a' b', F_law_drawn_pairs [.cell 0, .d (.int most)] (St a b Mt) = .ok (.d (pv ps)) (St a' b' Mt) ∧ okD ps ∧ ps.length ≤ 5 := by
  obtain ⟨r, a1, b1, e1, g1⟩ := take_ok (a := a) (b := b) (Mt := Mt ++ [some (.l [])]) (m := 4) (by omega)
  obtain ⟨a', b', ps, prod, o2', o5', o6', e2, h1, h2⟩ := loopD (most := most) (a := a1) (b := b1) (Mt := Mt) (n := r.toNat) (by omega) (o2 := none) (o5 := none) (o6 := none)
  refine ⟨ps, a', b', ?_, h1, h2⟩
  unfold F_law_drawn_pairs
  refine e_fn rfl ?_
  unfold T_law_drawn_pairs
  have e1' : F_law_take [.cell 0, .d (.int 4)] (St a b Mt ++ [some (.l [])]) = _ := e1
  repeat' (first | (wtm_at "mpA") | (with_reducible apply e_call e1') | (wtm_at "mp1"))
  refine (congrArg (fun z => el z _ _) (e2 : forL _ _ _ _ _ _ = _)).trans ?_
  repeat' (first | (wtm_at "mpA") | (with_reducible apply e_call tup_cS) | (wtm_at "mp1"))
  exact r_dS
theorem cutG_init {α : Type} {xs : List α} : cutG xs none (some (-1)) = xs.dropLast := by
  unfold cutG
  have e0 : HT.sIx xs.length 0 none = 0 := rfl
  have e : HT.sIx xs.length xs.length (some (-1)) = xs.length - 1 := by
    show (if (-1 : Int) < 0 then ((-1 : Int) + (xs.length : Int)).toNat else min (-1 : Int).toNat xs.length) = xs.length - 1
    rw [if_pos (by decide)]
    omega
  rw [e0, e, List.drop_zero, Nat.sub_zero, List.dropLast_eq_take]
def clsP (ps : List P2) : Bool := clsB (prodP ps) (fromL ps).tail
def dropC : Nat → List P2 → List P2
  | 0, ps => ps
  | n + 1, ps => if clsP ps = true then ps else dropC n ps.dropLast
theorem clsP_nil : clsP [] = true := by decide +kernel
theorem dropC_ok : ∀ (n : Nat) (ps : List P2), ps.length ≤ n → okD ps → clsP (dropC n ps) = true ∧ okD (dropC n ps) ∧ (dropC n ps).length ≤ ps.length
  | 0, ps, h, ho => by
    have e : ps = [] := List.eq_nil_of_length_eq_zero (by omega)
    rw [e] at ho ⊢
    exact ⟨clsP_nil, ho, Nat.le_refl _⟩
  | n + 1, ps, h, ho => by
    unfold dropC
    by_cases hc : clsP ps = true
    · rw [if_pos hc]; exact ⟨hc, ho, Nat.le_refl _⟩
    · rw [if_neg hc]
      have hl : ps.dropLast.length = ps.length - 1 := List.length_dropLast
      obtain ⟨h1, h2, h3⟩ := dropC_ok n ps.dropLast (by omega) (okD_init ho)
      exact ⟨h1, h2, by omega⟩
theorem dropC_one {ps : List P2} (h : clsP ps = true) : ∀ n, dropC n ps = ps
  | 0 => rfl
  | n + 1 => by unfold dropC; rw [if_pos h]
theorem okD_Bp {ps : List P2} (h : okD ps) : Bp ps := fun t ht => by
  have := h.1 t ht
  exact ⟨by omega, by omega⟩
theorem lcls_from {ps : List P2} {M : Mem} (hl : ps.length ≤ 8) : F_law_is_class [.d (ti (fromL ps))] M = .ok (.d (.bl (clsP ps))) M := by
  obtain ⟨r, h1, h2⟩ := fromL_len ps
  unfold clsP
  rw [h1]
  exact lisclass_ok (by omega)
theorem drawnC_ok {most a b : Int} {Mt : Mem} : ∃ ps a' b', F_law_drawn_class [.cell 0, .d (.int most)] (St a b Mt) = .ok (.d (ti (fromL ps))) (St a' b' Mt) ∧ clsP ps = true ∧ okD ps ∧ ps.length ≤ 5 := by
  obtain ⟨ps, a1, b1, e1, h1, h2⟩ := drawnP_ok (most := most) (a := a) (b := b) (Mt := Mt)
  obtain ⟨g1, g2, g3⟩ := dropC_ok 5 ps h2 h1
  refine ⟨dropC 5 ps, a1, b1, ?_, g1, g2, by omega⟩
  unfold F_law_drawn_class
  refine e_fn rfl ?_
  unfold T_law_drawn_class
  repeat' (first | (wtm_at "mpA") | (with_reducible apply e_call e1) | (wtm_at "mp1"))
  refine e_while (fun env M' => M' = St a1 b1 Mt ∧ ∃ (n : Nat) (qs : List P2), qs.length ≤ n ∧ n ≤ 5 ∧ dropC n qs = dropC 5 ps ∧ okD qs ∧ env = [some (.cell 0), some (.d (.int most)), some (.d (pv qs))])
    (fun env M' => M' = St a1 b1 Mt ∧ env = [some (.cell 0), some (.d (.int most)), some (.d (pv (dropC 5 ps)))])
    (fun env _ => match env with | [_, _, some (.d (.tup xs))] => xs.length | _ => 0) ⟨rfl, 5, ps, h2, by omega, rfl, h1, rfl⟩ (fun env M' h => ?_) ?_ (fun env M' h => ?_)
  · obtain ⟨rfl, n, qs, k1, k2, k3, k4, rfl⟩ := h
    have ef : ∀ M, F_law_from_pairs [.d (pv qs)] M = .ok (.d (ti (fromL qs))) M := fun M => lfrom_ok (okD_Bp k4) (by omega)
    have ec : ∀ M, F_law_is_class [.d (ti (fromL qs))] M = .ok (.d (.bl (clsP qs))) M := fun M => lcls_from (by omega)
    cases hc : clsP qs with
    | true =>
      rw [hc] at ec
      refine .inl ⟨el_start ?_, rfl, ?_⟩
      · repeat' (first | (wtm_at "mpA") | (with_reducible apply e_call (ef _)) | (with_reducible apply e_call (ec _)) | (wtm_at "mp1"))
        rfl
      · rw [← k3, dropC_one hc]
    | false =>
      rw [hc] at ec
      have hne : qs ≠ [] := fun z => by rw [z, clsP_nil] at hc; cases hc
      have hpos : 0 < qs.length := List.length_pos_iff.mpr hne
      refine .inr ⟨el_start ?_, [some (.cell 0), some (.d (.int most)), some (.d (pv qs.dropLast))], St a1 b1 Mt, el_start ?_, ⟨rfl, n - 1, qs.dropLast, by rw [List.length_dropLast]; omega, by omega, ?_, okD_init k4, rfl⟩, ?_⟩
      · repeat' (first | (wtm_at "mpA") | (with_reducible apply e_call (ef _)) | (with_reducible apply e_call (ec _)) | (wtm_at "mp1"))
        rfl
      · repeat' (first | (wtm_at "mpA") | (wtm_at "mp1"))
        rw [cutG_init, ← List.map_dropLast]
        rfl
      · rw [← k3]
        cases n with
        | zero => omega
        | succ n =>
          show dropC n qs.dropLast = dropC (n + 1) qs
          rw [dropC, if_neg (by rw [hc]; decide)]
      · show (qs.dropLast.map _).length < (qs.map _).length
        rw [List.length_map, List.length_map, List.length_dropLast]
        omega
  · show (ps.map _).length < 2 ^ 200
    rw [List.length_map]
    omega
  · obtain ⟨rfl, rfl⟩ := h
    have ef : ∀ M, F_law_from_pairs [.d (pv (dropC 5 ps))] M = .ok (.d (ti (fromL (dropC 5 ps)))) M := fun M => lfrom_ok (okD_Bp g2) (by omega)
    repeat' (first | (wtm_at "mpA") | (with_reducible apply e_call (ef _)) | (wtm_at "mp1"))
    exact r_dT

theorem while_ex {c : SB} {body : SS} {env : Env} {M : Mem} (I P : Env → Mem → Prop) (μ : Env → Mem → Nat) (h0 : I env M)
    (step : ∀ env M, I env M → (c env M = .ok false M ∧ P env M) ∨ (c env M = .ok true M ∧ ∃ env' M', body env M = .ok (.next env') M' ∧ I env' M' ∧ μ env' M' < μ env M)) (hμ : μ env M < 2 ^ 200) :
    ∃ env' M', sWhile c body env M = .ok (.next env') M' ∧ P env' M' := by
  unfold sWhile
  exact while_n μ step bigF env M h0 (Nat.lt_of_lt_of_le hμ big_le)
theorem e_next {β : Type} {kx : Exc → Mem → Out β} {res : Out β} {k : Fl → Mem → Out β} {s : SS} {env env' : Env} {M M' : Mem} (e : s env M = .ok (.next env') M') (h : k (.next env') M' = res) : el (s env M) k kx = res := by rw [e]; exact h
theorem div_i {j : Int} (h0 : 0 ≤ j) (h : j ≤ 1000000) : divOk j = true := div_s (by omega) (by omega)
theorem r_f {M : Mem} {xs : List D} : endK M.length (.ret (.fr xs)) M = .ok (.fr xs) M := by
  show Out.ok (AV.fr xs) (M.take M.length) = _
  rw [List.take_length]
theorem cls_one {x : Int} (h : clsB x [] = true) : x = 1 := by
  unfold clsB at h
  simp only [Bool.or_eq_true, Bool.and_eq_true, decide_eq_true_eq] at h
  rcases h with h | ⟨h1, h2, h3, h4, -⟩
  · cases h; rfl
  · exact h4
theorem cls_facts {x : Int} {r : List Int} (h : clsB x r = true) : (0 < x ∧ x ≤ 1000) ∧ (∀ k, k < r.length → (x :: r).getD k 0 < (x :: r).getD (k + 1) 0 ∧ (x :: r).getD (k + 1) 0 ≤ 1000) ∧ (∀ k, k ≤ r.length → 0 < (stepsL x r).getD k 0 ∧ (stepsL x r).getD k 0 ≤ 1000) := by
  have hp := cls_pos h
  refine ⟨hp.1, fun k hk => ?_, fun k hk => ?_⟩
  · have hm : (x :: r).getD (k + 1) 0 ∈ r := by
      show r.getD k 0 ∈ r
      rw [List.getD_eq_getElem?_getD, List.getElem?_eq_getElem hk]
      exact List.getElem_mem hk
    refine ⟨?_, (hp.2 _ hm).2⟩
    unfold clsB at h
    simp only [Bool.or_eq_true, Bool.and_eq_true, decide_eq_true_eq] at h
    rcases h with h | ⟨h1, h2, h3, -⟩
    · cases h; exact absurd hk (Nat.not_lt_zero _)
    · have := (zip_all (fun p => decide (p.1 < p.2)) x r).mp h3 k hk
      exact of_decide_eq_true this
  · induction k with
    | zero =>
      have e : (stepsL x r).getD 0 0 = x := by
        cases r with
        | nil => rfl
        | cons b r => rw [stepsL_cons]; rfl
      rw [e]
      exact hp.1
    | succ k ih =>
      have := stepsL_le x r hp.1.1 (fun b hb => (hp.2 b hb).1) k hk
      have := ih (by omega)
      omega
theorem p_cut {β : Type} {kx : Exc → Mem → Out β} {res : Out β} {k : AV → Mem → Out β} {x v : AV} {i j : Option Int} {M M2 : Mem} (e : cutop x i j M = .ok v M2) (h : k v M2 = res) : el (cutop x i j M) k kx = res := by rw [e]; exact h
theorem add_ff {M : Mem} {xs ys : List D} (h : xs.length + ys.length ≤ 1000000) : binop .Add (opnd M (.fr xs)) (opnd M (.fr ys)) M = .ok (.fr (xs ++ ys)) M := add_lf h
theorem cutG_nn {α : Type} (xs : List α) (i j : Nat) (h : i ≤ j) : cutG xs (some (i : Int)) (some (j : Int)) = (xs.drop i).take (j - i) := by
  unfold cutG
  rw [HT.sIx_nat, HT.sIx_nat]
  by_cases h1 : i ≤ xs.length
  · rw [Nat.min_eq_left h1]
    by_cases h2 : j ≤ xs.length
    · rw [Nat.min_eq_left h2]
    · rw [Nat.min_eq_right (by omega), List.take_of_length_le (by rw [List.length_drop]; omega), List.take_of_length_le (by rw [List.length_drop]; omega)]
  · rw [Nat.min_eq_right (show xs.length ≤ i by omega), List.drop_of_length_le (Nat.le_refl _), List.drop_of_length_le (show xs.length ≤ i by omega)]
    simp
theorem cutG_n0 {α : Type} (xs : List α) (i : Nat) : cutG xs (some (i : Int)) none = xs.drop i := by
  unfold cutG
  rw [HT.sIx_nat, HT.sIx_none]
  by_cases h1 : i ≤ xs.length
  · rw [Nat.min_eq_left h1, List.take_of_length_le (by rw [List.length_drop]; omega)]
  · rw [Nat.min_eq_right (show xs.length ≤ i by omega), List.drop_of_length_le (Nat.le_refl _), List.drop_of_length_le (show xs.length ≤ i by omega)]
    simp
def condW : Int → List Int → Int
  | _, [] => 0
  | e, c :: cs => (e - Int.gcd e c) * c + condW (Int.gcd e c) cs
theorem condI_W : ∀ (cs : List Int) (e y : Int), ((List.range cs.length).map fun k : Nat => tmI (y :: cs) (stepsL e cs) (1 + k)).sum = condW e cs
  | [], e, y => rfl
  | c :: cs, e, y => by
    rw [List.length_cons, List.range_succ_eq_map, List.map_cons, List.map_map, List.sum_cons, stepsL_cons]
    have e1 : tmI (y :: c :: cs) (e :: stepsL (Int.gcd e c) cs) (1 + ((0 : Nat) : Int)) = (e - Int.gcd e c) * c := by
      have e0 : (stepsL (Int.gcd e c) cs).getD 0 0 = Int.gcd e c := by
        cases cs with
        | nil => rfl
        | cons d cs => rw [stepsL_cons]; rfl
      show (e - (stepsL (Int.gcd e c) cs).getD 0 0) * c = _
      rw [e0]
    have e2 : ((fun k : Nat => tmI (y :: c :: cs) (e :: stepsL (Int.gcd e c) cs) (1 + k)) ∘ Nat.succ) = fun k : Nat => tmI (c :: cs) (stepsL (Int.gcd e c) cs) (1 + k) := by
      funext k
      show tmI (y :: c :: cs) (e :: stepsL (Int.gcd e c) cs) (1 + (k.succ : Nat)) = _
      unfold tmI
      rw [show ((1 : Int) + (k.succ : Nat)).toNat = (k + 1) + 1 by omega, show ((1 : Int) + (k.succ : Nat) - 1).toNat = k + 1 by omega, show ((1 : Int) + (k : Nat)).toNat = k + 1 by omega, show ((1 : Int) + (k : Nat) - 1).toNat = k by omega]
      rfl
    rw [e1, e2, condI_W cs (Int.gcd e c) c]
    rfl
def CW : Int → Int → List Int → Prop
  | e, _, [] => e = 1
  | e, b, c :: cs => b ≤ c ∧ (Int.gcd e c : Int) < e ∧ CW (Int.gcd e c) c cs
theorem gcd_sub {e b c : Int} (h : e ∣ b) : (Int.gcd (c - b) e : Int) = Int.gcd e c := by
  obtain ⟨k, rfl⟩ := h
  rw [Int.gcd_comm, show c - e * k = c + e * (-k) by rw [Int.mul_neg]; omega, Int.gcd_add_mul_left_right]
theorem gcd_p {e c : Int} (h : 0 < e) : 0 < (Int.gcd e c : Int) := by
  have : Int.gcd e c ≠ 0 := fun z => by have := Int.gcd_eq_zero_iff.mp z; omega
  omega
theorem cw_of : ∀ (cs : List Int) (e b y : Int), b ≤ y → ascZ (y :: cs) = true → lastI (stepsL e cs) = 1 → descZ (stepsL e cs) = true → CW e b cs
  | [], e, b, y, hb, h1, h2, h3 => h2
  | c :: cs, e, b, y, hb, h1, h2, h3 => by
    have a1 : (decide (y < c) && ascZ (c :: cs)) = true := h1
    rw [Bool.and_eq_true, decide_eq_true_eq] at a1
    rw [stepsL_cons] at h2 h3
    obtain ⟨q, hq⟩ : ∃ q, stepsL (Int.gcd e c) cs = (Int.gcd e c : Int) :: q := by
      cases cs with
      | nil => exact ⟨_, rfl⟩
      | cons d cs => exact ⟨_, stepsL_cons ..⟩
    have a3 : (decide ((Int.gcd e c : Int) < e) && descZ (stepsL (Int.gcd e c) cs)) = true := by
      rw [hq] at h3 ⊢
      exact h3
    rw [Bool.and_eq_true, decide_eq_true_eq] at a3
    have a2 : lastI (stepsL (Int.gcd e c) cs) = 1 := by
      rw [hq] at h2 ⊢
      exact h2
    exact ⟨by omega, a3.1, cw_of cs (Int.gcd e c) c c (Int.le_refl _) a1.2 a2 a3.2⟩
theorem cls_cw {x : Int} {r : List Int} (hr : r ≠ []) (h : clsB x r = true) : (2 ≤ x ∧ x ≤ 60) ∧ CW x 0 r ∧ ∃ c cs, r = c :: cs ∧ x < c := by
  unfold clsB at h
  simp only [Bool.or_eq_true, Bool.and_eq_true, decide_eq_true_eq] at h
  rcases h with h | ⟨h1, h2, h3, h4, h5, -⟩
  · exact absurd (List.cons.inj h).2 hr
  · refine ⟨h1, cw_of r x 0 x (by omega) h3 h4 h5, ?_⟩
    cases r with
    | nil => exact absurd rfl hr
    | cons c cs =>
      have a1 : (decide (x < c) && ascZ (c :: cs)) = true := h3
      rw [Bool.and_eq_true, decide_eq_true_eq] at a1
      exact ⟨c, cs, rfl, a1.1⟩
theorem lastI_cc (b c : Int) (cs : List Int) : lastI (b :: c :: cs) = lastI (c :: cs) := by
  unfold lastI
  rw [List.getLast?_cons_cons]
theorem cw_last : ∀ (cs : List Int) (e b : Int), CW e b cs → lastI (stepsL e cs) = 1 ∧ descZ (stepsL e cs) = true
  | [], e, b, h => ⟨h, rfl⟩
  | c :: cs, e, b, h => by
    have ih := cw_last cs _ _ h.2.2
    rw [stepsL_cons]
    obtain ⟨q, hq⟩ : ∃ q, stepsL (Int.gcd e c) cs = (Int.gcd e c : Int) :: q := by
      cases cs with
      | nil => exact ⟨_, rfl⟩
      | cons d cs => exact ⟨_, stepsL_cons ..⟩
    rw [hq] at ih ⊢
    refine ⟨by rw [lastI_cc]; exact ih.1, ?_⟩
    show (decide ((Int.gcd e c : Int) < e) && descZ (_ :: q)) = true
    rw [ih.2, decide_eq_true h.2.1]
    rfl
theorem cw_len : ∀ (cs : List Int) (e b : Int), 0 < e → CW e b cs → (2 : Int) ^ cs.length ≤ e
  | [], e, b, he, h => by
    have : e = 1 := h
    subst this
    decide
  | c :: cs, e, b, he, h => by
    have ih := cw_len cs _ _ (gcd_p (c := c) he) h.2.2
    have h2 := h.2.1
    have hg := gcd_p (c := c) he
    obtain ⟨k, hk⟩ := Int.gcd_dvd_left e c
    generalize (Int.gcd e c : Int) = g at *
    have : 2 ≤ k := by
      apply Decidable.byContradiction
      intro hk2
      have : g * k ≤ g * 1 := Int.mul_le_mul_of_nonneg_left (by omega) (by omega)
      omega
    have : g * 2 ≤ g * k := Int.mul_le_mul_of_nonneg_left this (by omega)
    rw [List.length_cons, Int.pow_succ]
    omega
theorem cw_len10 {cs : List Int} {e b : Int} (he : 0 < e ∧ e ≤ 60) (h : CW e b cs) : cs.length ≤ 5 := by
  have := cw_len cs e b he.1 h
  apply Decidable.byContradiction
  intro h5
  have h6 : (2 : Nat) ^ 6 ≤ 2 ^ cs.length := Nat.pow_le_pow_right (by decide) (by omega)
  have h7 : ((2 : Nat) ^ cs.length : Nat) = ((2 : Int) ^ cs.length) := by push_cast; rfl
  omega
theorem cmp_ti (A B : List Int) (M : Mem) : cmpop .Eq (.d (ti A)) (.d (ti B)) M = .ok (.d (.bl (decide (A = B)))) M :=
  el_start (p_eq (ok_ti A) (ok_ti B) (by rw [eqv_ti]))
theorem cls_len {x : Int} {r : List Int} (h : clsB x r = true) : r.length ≤ 5 := by
  by_cases hr : r = []
  · subst hr; exact Nat.zero_le _
  · have g := cls_cw hr h
    exact cw_len10 (by omega) g.2.1
theorem any_bls {bs : List Bool} {M : Mem} : anyOp [.d (.lst (bs.map .bl))] M = .ok (.d (.bl (bs.any id))) M := by
  show (match (lstOf M (.d (.lst (bs.map .bl)))).bind bools? with
    | some bs => Out.ok (AV.d (.bl (bs.any id))) M
    | none => .bad) = _
  have e : (lstOf M (.d (.lst (bs.map .bl)))).bind bools? = some bs := bools_map bs
  rw [e]

/-- the lot of a class -/
def lotW : Int → Int → Int → List Int → List Int
  | _, _, _, [] => []
  | e, v, c, d :: ds => (e / Int.gcd e c * v + d - c) :: lotW (Int.gcd e c) (e / Int.gcd e c * v + d - c) d ds
def lotP (x : Int) : List Int → List Int
  | [] => [x]
  | c :: cs => x :: c :: lotW x c c cs
/-- the class of a lot -/
def clW : Int → Int → Int → List Int → List Int
  | _, _, _, [] => []
  | e, c, v, w :: ws => (c + w - e / Int.gcd e v * v) :: clW (Int.gcd e v) (c + w - e / Int.gcd e v * v) w ws
def clP (x : Int) : List Int → List Int
  | [] => [x]
  | v :: vs => x :: v :: clW x v v vs
/-- the row of a lot without a broken place -/
def LW : Int → Int → List Int → Prop
  | e, v, [] => Int.gcd e v = 1 ∧ (Int.gcd e v : Int) < e
  | e, v, w :: ws => (Int.gcd e v : Int) < e ∧ e / Int.gcd e v * v < w ∧ LW (Int.gcd e v) w ws
theorem gcd_eqm {g a b : Int} (h : g ∣ a - b) : Int.gcd g a = Int.gcd g b := by
  obtain ⟨k, hk⟩ := h
  rw [show a = b + g * k by omega, Int.gcd_add_mul_left_right]
theorem lot_cl : ∀ (ws : List Int) (e c v : Int), 0 < e → Int.gcd e c = Int.gcd e v → lotW e v c (clW e c v ws) = ws
  | [], _, _, _, _, _ => rfl
  | w :: ws, e, c, v, he, hg => by
    show (e / Int.gcd e c * v + (c + w - e / Int.gcd e v * v) - c) :: lotW (Int.gcd e c) (e / Int.gcd e c * v + (c + w - e / Int.gcd e v * v) - c) _ _ = _
    have hp := gcd_p (c := v) he
    rw [hg]
    have d1 : (Int.gcd e v : Int) ∣ e / Int.gcd e v * v := Int.dvd_mul_of_dvd_right (Int.gcd_dvd_right ..)
    have d2 : (Int.gcd e v : Int) ∣ c := by rw [← hg]; exact Int.gcd_dvd_right ..
    have d3 : (Int.gcd e v : Int) ∣ c + w - e / Int.gcd e v * v - w := by
      rw [show c + w - e / Int.gcd e v * v - w = c - e / Int.gcd e v * v by omega]
      exact Int.dvd_sub d2 d1
    have e1 : e / Int.gcd e v * v + (c + w - e / Int.gcd e v * v) - c = w := by omega
    rw [e1, lot_cl ws _ _ w hp (gcd_eqm d3)]
theorem q_ge {e v : Int} (he : 0 < e) (hv : 0 ≤ v) : v ≤ e / Int.gcd e v * v := by
  have hp := gcd_p (c := v) he
  have h1 : (Int.gcd e v : Int) ≤ e := Int.le_of_dvd he (Int.gcd_dvd_left ..)
  have h2 : 1 ≤ e / Int.gcd e v := Int.le_ediv_of_mul_le hp (by omega)
  have := Int.mul_le_mul_of_nonneg_right h2 hv
  omega
theorem lw_cl : ∀ (ws : List Int) (e b c v : Int), 0 < e → 0 ≤ c → c ≤ v → b ≤ c → Int.gcd e c = Int.gcd e v → LW e v ws → ascZ (v :: ws) = true →
    CW e b (c :: clW e c v ws) ∧ ascZ (c :: clW e c v ws) = true ∧ lastI (c :: clW e c v ws) ≤ lastI (v :: ws)
  | [], e, b, c, v, he, hc, hcv, hb, hg, h, _ => by
    refine ⟨⟨hb, by rw [hg]; exact h.2, ?_⟩, rfl, hcv⟩
    show (Int.gcd e c : Int) = 1
    rw [hg, h.1]
    rfl
  | w :: ws, e, b, c, v, he, hc, hcv, hb, hg, h, ha => by
    have hp := gcd_p (c := v) he
    have d1 : (Int.gcd e v : Int) ∣ e / Int.gcd e v * v := Int.dvd_mul_of_dvd_right (Int.gcd_dvd_right ..)
    have d2 : (Int.gcd e v : Int) ∣ c := by rw [← hg]; exact Int.gcd_dvd_right ..
    have d3 : (Int.gcd e v : Int) ∣ c + w - e / Int.gcd e v * v - w := by
      rw [show c + w - e / Int.gcd e v * v - w = c - e / Int.gcd e v * v by omega]
      exact Int.dvd_sub d2 d1
    have h2 := h.2.1
    have hq := q_ge (v := v) he (by omega)
    have ha2 : (decide (v < w) && ascZ (w :: ws)) = true := ha
    rw [Bool.and_eq_true] at ha2
    have ih := lw_cl ws (Int.gcd e v) c (c + w - e / Int.gcd e v * v) w hp (by omega) (by omega) (by omega) (gcd_eqm d3) h.2.2 ha2.2
    refine ⟨⟨hb, by rw [hg]; exact h.1, ?_⟩, ?_, ?_⟩
    · rw [hg]; exact ih.1
    · show (decide (c < c + w - e / Int.gcd e v * v) && ascZ ((c + w - e / Int.gcd e v * v) :: clW (Int.gcd e v) (c + w - e / Int.gcd e v * v) w ws)) = true
      rw [ih.2.1, decide_eq_true (by omega)]
      rfl
    · show lastI (c :: (c + w - e / Int.gcd e v * v) :: clW (Int.gcd e v) (c + w - e / Int.gcd e v * v) w ws) ≤ _
      rw [lastI_cc, lastI_cc]
      exact ih.2.2
theorem cond_le (B : Int) : ∀ (cs : List Int) (e b : Int), 0 < e → CW e b cs → (∀ c ∈ cs, c ≤ B) → condW e cs ≤ (e - 1) * B
  | [], e, b, he, h, _ => by
    have : e = 1 := h
    subst this
    show (0 : Int) ≤ (1 - 1) * B
    simp
  | c :: cs, e, b, he, h, hB => by
    have ih := cond_le B cs _ _ (gcd_p (c := c) he) h.2.2 (fun x hx => hB x (.tail _ hx))
    show (e - Int.gcd e c) * c + condW (Int.gcd e c) cs ≤ _
    have := Int.mul_le_mul_of_nonneg_left (hB c List.mem_cons_self) (show 0 ≤ e - Int.gcd e c by have := h.2.1; omega)
    have e1 : (e - 1) * B = (e - Int.gcd e c) * B + ((Int.gcd e c : Int) - 1) * B := by rw [← Int.add_mul]; congr 1; omega
    omega
/-- a broken place of a row of generators -/
def brkB (L E : List Int) (i : Nat) : Bool := decide (E.getD i 0 = E.getD (i - 1) 0) || (decide (1 < i) && decide (L.getD i 0 ≤ E.getD (i - 2) 0 / E.getD (i - 1) 0 * L.getD (i - 1) 0))
theorem steps_head (e : Int) (r : List Int) : (stepsL e r).getD 0 0 = e := by
  cases r with
  | nil => rfl
  | cons d r => rw [stepsL_cons]; rfl
theorem steps_le (e : Int) (v : Int) (r : List Int) (he : 0 < e) (h : (stepsL e (v :: r)).getD 1 0 ≠ (stepsL e (v :: r)).getD 0 0) : (Int.gcd e v : Int) < e := by
  rw [steps_head, stepsL_cons] at h
  have h1 : (stepsL (Int.gcd e v) r).getD 0 0 ≠ e := h
  rw [steps_head] at h1
  have : (Int.gcd e v : Int) ≤ e := Int.le_of_dvd he (Int.gcd_dvd_left ..)
  omega
theorem lw_of : ∀ (ws : List Int) (e v y : Int), 0 < e → (∀ i, 1 ≤ i → i ≤ ws.length + 1 → brkB (y :: v :: ws) (stepsL e (v :: ws)) i = false) → lastI (stepsL e (v :: ws)) = 1 → LW e v ws
  | [], e, v, y, he, h, hl => by
    have h1 := h 1 (Nat.le_refl _) (by simp)
    unfold brkB at h1
    rw [Bool.or_eq_false_iff] at h1
    have hlt := steps_le e v [] he (of_decide_eq_false h1.1)
    rw [stepsL_cons] at hl
    have : lastI (e :: stepsL (Int.gcd e v) []) = Int.gcd e v := rfl
    exact ⟨by omega, hlt⟩
  | w :: ws, e, v, y, he, h, hl => by
    have h1 := h 1 (Nat.le_refl _) (by simp)
    have h2 := h 2 (by omega) (by simp)
    unfold brkB at h1 h2
    rw [Bool.or_eq_false_iff] at h1 h2
    have hlt := steps_le e v (w :: ws) he (of_decide_eq_false h1.1)
    have e0 : (stepsL e (v :: w :: ws)).getD 0 0 = e := steps_head ..
    have e1 : (stepsL e (v :: w :: ws)).getD 1 0 = Int.gcd e v := by
      rw [stepsL_cons]
      exact steps_head ..
    have h3 := h2.2
    rw [show (2 - 2 : Nat) = 0 from rfl, show (2 - 1 : Nat) = 1 from rfl, e0, e1] at h3
    have h4 : (decide ((1 : Nat) < 2) && decide (w ≤ e / Int.gcd e v * v)) = false := h3
    rw [decide_eq_true (by omega), Bool.true_and] at h4
    have h5 := of_decide_eq_false h4
    refine ⟨hlt, by omega, lw_of ws (Int.gcd e v) w v (gcd_p he) (fun i hi hi2 => ?_) ?_⟩
    · have h6 := h (i + 1) (by omega) (by rw [List.length_cons]; omega)
      unfold brkB at h6 ⊢
      rw [stepsL_cons] at h6
      obtain ⟨j, rfl⟩ : ∃ j, i = j + 1 := ⟨i - 1, by omega⟩
      rw [Bool.or_eq_false_iff] at h6 ⊢
      refine ⟨h6.1, ?_⟩
      cases j with
      | zero => rfl
      | succ j =>
        have h7 := h6.2
        rw [decide_eq_true (by omega), Bool.true_and] at h7 ⊢
        exact h7
    · rw [stepsL_cons] at hl
      obtain ⟨q, hq⟩ : ∃ q, stepsL (Int.gcd e v) (w :: ws) = (Int.gcd e v : Int) :: q := ⟨_, stepsL_cons ..⟩
      rw [hq, lastI_cc] at hl
      rw [hq]
      exact hl
/-- generators -/
def GenB (x : Int) (r : List Int) : Bool := decide (r.length ≤ 11) && (decide (1 ≤ x) && (decide (lastI (x :: r) ≤ 1000) && (ascZ (x :: r) && decide (lastI (stepsL x r) = 1))))
def LotB (x : Int) (r : List Int) : Bool := GenB x r && decide (lastI (x :: r) ≤ 50)
/-- the places that are broken -/
def brkL (x : Int) (r : List Int) : List Nat := (List.range r.length).filter fun k => brkB (x :: r) (stepsL x r) (1 + k)
theorem lot_back {x : Int} {r : List Int} (h : LotB x r = true) (hb : brkL x r = []) : clsB x (clP x r).tail = true ∧ (clP x r) = x :: (clP x r).tail ∧ lotP x (clP x r).tail = x :: r ∧ (clP x r).tail.length = r.length := by
  unfold LotB GenB at h
  simp only [Bool.and_eq_true, decide_eq_true_eq] at h
  obtain ⟨⟨h1, h2, h3, h4, h5⟩, h6⟩ := h
  cases r with
  | nil =>
    have : x = 1 := h5
    subst this
    exact ⟨by decide, rfl, rfl, rfl⟩
  | cons v vs =>
    have hz : ∀ i, 1 ≤ i → i ≤ vs.length + 1 → brkB (x :: v :: vs) (stepsL x (v :: vs)) i = false := fun i hi hi2 => by
      have := List.filter_eq_nil_iff.mp hb (i - 1) (List.mem_range.mpr (by rw [List.length_cons]; omega))
      rw [show 1 + (i - 1) = i by omega] at this
      simpa using this
    have hw := lw_of vs x v x (by omega) hz h5
    have ha : (decide (x < v) && ascZ (v :: vs)) = true := h4
    rw [Bool.and_eq_true, decide_eq_true_eq] at ha
    have g := lw_cl vs x 0 v v (by omega) (by omega) (Int.le_refl _) (by omega) rfl hw ha.2
    rw [lastI_cc] at h6
    have hx2 : 2 ≤ x := by
      have := g.1.2.1
      have := gcd_p (e := x) (c := v) (by omega)
      omega
    have hx50 : v ≤ 50 := by have := (asc_facts ha.2).2; omega
    have haz : ascZ (x :: v :: clW x v v vs) = true := by
      show (decide (x < v) && ascZ (v :: clW x v v vs)) = true
      rw [g.2.1, decide_eq_true ha.1]
      rfl
    have hall : ∀ c ∈ v :: clW x v v vs, c ≤ 50 := fun c hc => by
      have f := asc_facts haz
      have := f.1 c hc
      rw [lastI_cc] at this
      omega
    have hcd := cond_le 50 _ _ _ (by omega) g.1 hall
    have ecd : condI (x :: v :: clW x v v vs) (stepsL x (v :: clW x v v vs)) = condW x (v :: clW x v v vs) - x + 1 := by
      unfold condI
      rw [show (x :: v :: clW x v v vs).length - 1 = (v :: clW x v v vs).length from rfl, condI_W]
      rfl
    have hl := cw_last _ x 0 g.1
    refine ⟨?_, rfl, ?_, ?_⟩
    · show clsB x (v :: clW x v v vs) = true
      unfold clsB
      rw [decide_eq_true (show lastI (x :: v :: clW x v v vs) ≤ 300 by rw [lastI_cc]; omega), haz, decide_eq_true hl.1, hl.2, decide_eq_true (show 2 ≤ x ∧ x ≤ 60 by omega), decide_eq_true (show condI (x :: v :: clW x v v vs) (stepsL x (v :: clW x v v vs)) ≤ 3000 by rw [ecd]; omega)]
      simp
    · show x :: v :: lotW x v v (clW x v v vs) = _
      rw [lot_cl vs x v v (by omega) rfl]
    · show (clW x v v vs).length + 1 = vs.length + 1
      have : ∀ (ws : List Int) (e c v : Int), (clW e c v ws).length = ws.length := fun ws => by
        induction ws with
        | nil => intro _ _ _; rfl
        | cons w ws ih => intro e c v; show (clW _ _ _ ws).length + 1 = _; rw [ih]; rfl
      rw [this]

theorem lotW_get : ∀ (ds : List Int) (e v c : Int) (k : Nat), k < ds.length → (v :: lotW e v c ds).getD (k + 1) 0 = (stepsL e (c :: ds)).getD k 0 / (stepsL e (c :: ds)).getD (k + 1) 0 * (v :: lotW e v c ds).getD k 0 + (c :: ds).getD (k + 1) 0 - (c :: ds).getD k 0
  | [], _, _, _, k, h => absurd h (Nat.not_lt_zero _)
  | d :: ds, e, v, c, k, h => by
    cases k with
    | zero =>
      have e1 : (stepsL e (c :: d :: ds)).getD (0 + 1) 0 = Int.gcd e c := by rw [stepsL_cons]; exact steps_head ..
      rw [steps_head, e1]
      rfl
    | succ k =>
      have ih := lotW_get ds (Int.gcd e c) (e / Int.gcd e c * v + d - c) d k (by rw [List.length_cons] at h; omega)
      rw [stepsL_cons]
      exact ih
theorem clW_get : ∀ (ws : List Int) (e c v : Int) (k : Nat), k < ws.length → (c :: clW e c v ws).getD (k + 1) 0 = (c :: clW e c v ws).getD k 0 + (v :: ws).getD (k + 1) 0 - (stepsL e (v :: ws)).getD k 0 / (stepsL e (v :: ws)).getD (k + 1) 0 * (v :: ws).getD k 0
  | [], _, _, _, k, h => absurd h (Nat.not_lt_zero _)
  | w :: ws, e, c, v, k, h => by
    cases k with
    | zero =>
      have e1 : (stepsL e (v :: w :: ws)).getD (0 + 1) 0 = Int.gcd e v := by rw [stepsL_cons]; exact steps_head ..
      rw [steps_head, e1]
      rfl
    | succ k =>
      have ih := clW_get ws (Int.gcd e v) (c + w - e / Int.gcd e v * v) w k (by rw [List.length_cons] at h; omega)
      rw [stepsL_cons]
      exact ih
theorem lotW_len : ∀ (ds : List Int) (e v c : Int), (lotW e v c ds).length = ds.length
  | [], _, _, _ => rfl
  | d :: ds, e, v, c => by
    show (lotW _ _ _ ds).length + 1 = ds.length + 1
    rw [lotW_len ds]
theorem clW_len : ∀ (ws : List Int) (e c v : Int), (clW e c v ws).length = ws.length
  | [], _, _, _ => rfl
  | w :: ws, e, c, v => by
    show (clW _ _ _ ws).length + 1 = ws.length + 1
    rw [clW_len ws]
theorem steps_in {x : Int} {r : List Int} (hx : 0 < x) (hr : ∀ b ∈ r, 0 < b) : ∀ k, k ≤ r.length → 0 < (stepsL x r).getD k 0 ∧ (stepsL x r).getD k 0 ≤ x
  | 0, _ => by rw [steps_head]; omega
  | k + 1, h => by
    have := steps_in hx hr k (by omega)
    have := stepsL_le x r hx hr k (by omega)
    omega
theorem take_next {L : List Int} {k : Nat} (h : k < L.length) {a : Int} (ha : L.getD k 0 = a) : L.take (k + 1) = L.take k ++ [a] := by
  rw [List.take_add_one, List.getElem?_eq_getElem h, ← ha, List.getD_eq_getElem?_getD, List.getElem?_eq_getElem h]
  rfl
theorem take_get {L : List Int} {k n : Nat} (h : k < n) : (L.take n).getD k 0 = L.getD k 0 := by
  rw [List.getD_eq_getElem?_getD, List.getD_eq_getElem?_getD, List.getElem?_take_of_lt h]
theorem cls_mul {x : Int} {r : List Int} (hx : 0 < x ∧ x ≤ 1000) (hr : ∀ b ∈ r, 0 < b) {k : Nat} (hk : k + 1 ≤ r.length) : (0 < (stepsL x r).getD (k + 1) 0 ∧ (stepsL x r).getD (k + 1) 0 ≤ 1000) ∧ 0 ≤ (stepsL x r).getD k 0 / (stepsL x r).getD (k + 1) 0 ∧ (stepsL x r).getD k 0 / (stepsL x r).getD (k + 1) 0 ≤ 1000 := by
  have h1 := steps_in hx.1 hr k (by omega)
  have h2 := steps_in hx.1 hr (k + 1) hk
  have h3 := Int.ediv_nonneg (a := (stepsL x r).getD k 0) (b := (stepsL x r).getD (k + 1) 0) (by omega) (by omega)
  have h4 := Int.ediv_le_self ((stepsL x r).getD (k + 1) 0) (show 0 ≤ (stepsL x r).getD k 0 by omega)
  omega
theorem lot_ok {x : Int} {r : List Int} {M : Mem} (hc : clsB x r = true) (hl : r.length ≤ 100) : Flot_from [.d (ti (x :: r))] M = .ok (.fr ((lotP x r).map .int)) M := by
  have hlc : ((x :: r).map D.int).length ≤ 1000000 := by simp; omega
  unfold Flot_from
  refine e_fn rfl ?_
  unfold Tlot_from
  cases r with
  | nil =>
    cases cls_one hc
    repeat' (first | (wtm_at "mpA") | (wtm_at "mp1"))
    exact r_f
  | cons c cs =>
    have hn1 : ¬ (((x :: c :: cs).map D.int).length : Int) = 1 := by rw [List.length_map, List.length_cons, List.length_cons]; omega
    have hp := cls_pos hc
    have i0 : ∀ M, idx (.d (ti (x :: c :: cs))) (.d (.int 1)) M = .ok (.d (.int c)) M := fun M => idx_tiI (by omega) (by simp; omega)
    repeat' (first | (wtm_at "mpA") | (with_reducible refine e_call (steps_ok (cls_sm hc).1 (cls_sm hc).2 (by omega)) ?_) | (with_reducible apply p_idx idx_head) | (with_reducible apply p_idx (i0 _)) | (wtm_at "mp1"))
    have e1 : (((x :: c :: cs).map D.int).length - 1 - 1 : Int).toNat = cs.length := by simp
    dsimp only
    rw [e1]
    have hLl : (lotP x (c :: cs)).length = cs.length + 2 := by show (lotW x c c cs).length + 1 + 1 = _; rw [lotW_len]
    have hlen := stepsL_len x (c :: cs)
    refine e_rng (fun k env M' => M' = M ++ [some (.l (((lotP x (c :: cs)).take (k + 2)).map .int))] ∧ ∃ o1, env = [some (.d (ti (x :: c :: cs))), o1, some (.d (.lst ((stepsL x (c :: cs)).map .int))), some (.cell M.length)]) ⟨rfl, _, rfl⟩ (fun k hk env M' h => ?_) (fun env M' h => ?_)
    · obtain ⟨rfl, o1, rfl⟩ := h
      have a1 : ((1 : Int) + k).toNat = k + 1 := by omega
      have a2 : ((1 : Int) + k - 1).toNat = k := by omega
      have a3 : ((1 : Int) + k + 1).toNat = k + 2 := by omega
      have hm := cls_mul hp.1 (fun b hb => (hp.2 b hb).1) (k := k) (by rw [List.length_cons]; omega)
      have i1 : ∀ M, idx (.d (.lst ((stepsL x (c :: cs)).map .int))) (.d (.int (1 + k - 1))) M = .ok (.d (.int ((stepsL x (c :: cs)).getD k 0))) M := fun M => by rw [idx_li (by omega) (by rw [hlen, List.length_cons]; omega), a2]
      have i2 : ∀ M, idx (.d (.lst ((stepsL x (c :: cs)).map .int))) (.d (.int (1 + k))) M = .ok (.d (.int ((stepsL x (c :: cs)).getD (k + 1) 0))) M := fun M => by rw [idx_li (by omega) (by rw [hlen, List.length_cons]; omega), a1]
      have i3 : ∀ M, idx (.d (ti (x :: c :: cs))) (.d (.int (1 + k + 1))) M = .ok (.d (.int ((x :: c :: cs).getD (k + 2) 0))) M := fun M => by rw [idx_tiI (by omega) (by simp; omega), a3]
      have i4 : ∀ M, idx (.d (ti (x :: c :: cs))) (.d (.int (1 + k))) M = .ok (.d (.int ((x :: c :: cs).getD (k + 1) 0))) M := fun M => by rw [idx_tiI (by omega) (by simp; omega), a1]
      have i5 : idx (.cell M.length) (.d (.int (1 + k))) (M ++ [some (.l (((lotP x (c :: cs)).take (k + 2)).map .int))]) = .ok (.d (.int ((lotP x (c :: cs)).getD (k + 1) 0))) (M ++ [some (.l (((lotP x (c :: cs)).take (k + 2)).map .int))]) :=
        idx_cell last_get (atI_int (by omega) (by rw [List.getElem?_map, a1, List.getElem?_take_of_lt (by omega), List.getD_eq_getElem?_getD, List.getElem?_eq_getElem (by omega)]; rfl))
      have hg := lotW_get cs x c c k hk
      have hg2 : (lotP x (c :: cs)).getD (k + 2) 0 = (stepsL x (c :: cs)).getD k 0 / (stepsL x (c :: cs)).getD (k + 1) 0 * (lotP x (c :: cs)).getD (k + 1) 0 + (x :: c :: cs).getD (k + 2) 0 - (x :: c :: cs).getD (k + 1) 0 := hg
      have ht := take_next (L := lotP x (c :: cs)) (k := k + 2) (by omega) hg2
      have hll : (((lotP x (c :: cs)).take (k + 2)).map D.int).length < 1000000 := by rw [List.length_map, List.length_take]; rw [List.length_cons] at hl; omega
      refine ⟨_, _, _, rfl, el_start ?_, ⟨by rw [show k + 1 + 2 = k + 2 + 1 by omega, ht, List.map_append], some (.d (.int (1 + k))), rfl⟩⟩
      clear hg hg2 ht e1 hlc hn1
      generalize (stepsL x (c :: cs)).getD k 0 = E0 at *
      generalize (stepsL x (c :: cs)).getD (k + 1) 0 = E1 at *
      repeat' (first | (wtm_at "mpA") | (with_reducible apply p_idx (i1 _)) | (with_reducible apply p_idx (i2 _)) | (with_reducible apply p_idx (i3 _)) | (with_reducible apply p_idx (i4 _)) | (with_reducible apply p_idx i5) | (with_reducible refine p_div hm.1.1 (div_i (by omega) (by omega)) ?_) | (with_reducible refine p_mul (bits_small (by omega) (by omega) _) ?_) | (with_reducible refine m_appL hll ?_) | (wtm_at "mp1"))
      rfl
    · obtain ⟨rfl, o1, rfl⟩ := h
      repeat' (first | (wtm_at "mpA") | (wtm_at "mp1"))
      refine r_c.trans ?_
      rw [List.take_of_length_le (by omega)]

theorem cutG_0n {α : Type} (xs : List α) (j : Nat) : cutG xs none (some (j : Int)) = xs.take j := by
  unfold cutG
  have e1 : HT.sIx xs.length xs.length (some (j : Int)) = min j xs.length := by
    unfold HT.sIx
    dsimp only
    rw [if_neg (by omega)]
    first | rfl | omega | (simp)
  have e0 : HT.sIx xs.length 0 none = 0 := rfl
  rw [e0, e1, List.drop_zero, Nat.sub_zero]
  by_cases h : j ≤ xs.length
  · rw [Nat.min_eq_left h]
  · rw [Nat.min_eq_right (by omega), List.take_length, List.take_of_length_le (by omega)]
theorem llot_ok {x : Int} {r : List Int} {M : Mem} (hc : clsB x r = true) (hl : r.length ≤ 100) : F_law_lot [.d (ti (x :: r))] M = .ok (.d (ti (lotP x r))) M := by
  have hlc : ((x :: r).map D.int).length ≤ 1000000 := by simp; omega
  unfold F_law_lot
  refine e_fn rfl ?_
  unfold T_law_lot
  cases r with
  | nil =>
    cases cls_one hc
    repeat' (first | (wtm_at "mpA") | (with_reducible refine e_call (lsteps_ok (cls_sm hc).1 (cls_sm hc).2 (by omega)) ?_) | (with_reducible apply e_call lst_tup) | (with_reducible apply e_call tup_cell) | (wtm_at "mp1"))
    have e1 : (((([1] : List Int).map D.int).length : Nat) - 1 - 1 : Int).toNat = 0 := by decide
    dsimp only
    rw [e1]
    refine f_nil rfl ?_
    repeat' (first | (wtm_at "mpA") | (with_reducible apply e_call tup_cell) | (wtm_at "mp1"))
    exact r_dL
  | cons c cs =>
    have hp := cls_pos hc
    have cq : ∀ M, cutop (.d (ti (x :: c :: cs))) none (some 2) M = .ok (.d (ti [x, c])) M := fun M => by
      show Out.ok (AV.d (.tup (cutG ((x :: c :: cs).map D.int) none (some 2)))) M = _
      rw [cutG_map, show (2 : Int) = ((2 : Nat) : Int) from rfl, cutG_0n]
      rfl
    repeat' (first | (wtm_at "mpA") | (with_reducible refine e_call (lsteps_ok (cls_sm hc).1 (cls_sm hc).2 (by omega)) ?_) | (with_reducible apply p_cut (cq _)) | (with_reducible apply e_call lst_tup) | (wtm_at "mp1"))
    have e1 : (((x :: c :: cs).map D.int).length - 1 - 1 : Int).toNat = cs.length := by simp
    dsimp only
    rw [e1]
    have hLl : (lotP x (c :: cs)).length = cs.length + 2 := by show (lotW x c c cs).length + 1 + 1 = _; rw [lotW_len]
    have hlen := stepsL_len x (c :: cs)
    refine e_rng (fun k env M' => M' = M ++ [some (.l (((lotP x (c :: cs)).take (k + 2)).map .int))] ∧ ∃ o1, env = [some (.d (ti (x :: c :: cs))), o1, some (.d (.lst ((stepsL x (c :: cs)).map .int))), some (.cell M.length)]) ⟨rfl, _, rfl⟩ (fun k hk env M' h => ?_) (fun env M' h => ?_)
    · obtain ⟨rfl, o1, rfl⟩ := h
      have a1 : ((1 : Int) + k).toNat = k + 1 := by omega
      have a2 : ((1 : Int) + k - 1).toNat = k := by omega
      have a3 : ((1 : Int) + k + 1).toNat = k + 2 := by omega
      have hm := cls_mul hp.1 (fun b hb => (hp.2 b hb).1) (k := k) (by rw [List.length_cons]; omega)
      have i1 : ∀ M, idx (.d (.lst ((stepsL x (c :: cs)).map .int))) (.d (.int (1 + k - 1))) M = .ok (.d (.int ((stepsL x (c :: cs)).getD k 0))) M := fun M => by rw [idx_li (by omega) (by rw [hlen, List.length_cons]; omega), a2]
      have i2 : ∀ M, idx (.d (.lst ((stepsL x (c :: cs)).map .int))) (.d (.int (1 + k))) M = .ok (.d (.int ((stepsL x (c :: cs)).getD (k + 1) 0))) M := fun M => by rw [idx_li (by omega) (by rw [hlen, List.length_cons]; omega), a1]
      have i3 : ∀ M, idx (.d (ti (x :: c :: cs))) (.d (.int (1 + k + 1))) M = .ok (.d (.int ((x :: c :: cs).getD (k + 2) 0))) M := fun M => by rw [idx_tiI (by omega) (by simp; omega), a3]
      have i4 : ∀ M, idx (.d (ti (x :: c :: cs))) (.d (.int (1 + k))) M = .ok (.d (.int ((x :: c :: cs).getD (k + 1) 0))) M := fun M => by rw [idx_tiI (by omega) (by simp; omega), a1]
      have htp := take_next (L := lotP x (c :: cs)) (k := k + 1) (by omega) rfl
      have i5 : idx (.cell M.length) (.d (.int (-1))) (M ++ [some (.l (((lotP x (c :: cs)).take (k + 2)).map .int))]) = .ok (.d (.int ((lotP x (c :: cs)).getD (k + 1) 0))) (M ++ [some (.l (((lotP x (c :: cs)).take (k + 2)).map .int))]) := by
        rw [show k + 2 = k + 1 + 1 by omega, htp]
        exact idx_lastC
      have hg := lotW_get cs x c c k hk
      have hg2 : (lotP x (c :: cs)).getD (k + 2) 0 = (stepsL x (c :: cs)).getD k 0 / (stepsL x (c :: cs)).getD (k + 1) 0 * (lotP x (c :: cs)).getD (k + 1) 0 + (x :: c :: cs).getD (k + 2) 0 - (x :: c :: cs).getD (k + 1) 0 := hg
      have ht := take_next (L := lotP x (c :: cs)) (k := k + 2) (by omega) hg2
      have hll : (((lotP x (c :: cs)).take (k + 2)).map D.int).length < 1000000 := by rw [List.length_map, List.length_take]; rw [List.length_cons] at hl; omega
      refine ⟨_, _, _, rfl, el_start ?_, ⟨by rw [show k + 1 + 2 = k + 2 + 1 by omega, ht, List.map_append], some (.d (.int (1 + k))), rfl⟩⟩
      clear hg hg2 ht e1 hlc htp
      generalize (stepsL x (c :: cs)).getD k 0 = E0 at *
      generalize (stepsL x (c :: cs)).getD (k + 1) 0 = E1 at *
      repeat' (first | (wtm_at "mpA") | (with_reducible apply p_idx (i1 _)) | (with_reducible apply p_idx (i2 _)) | (with_reducible apply p_idx (i3 _)) | (with_reducible apply p_idx (i4 _)) | (with_reducible apply p_idx i5) | (with_reducible refine p_div hm.1.1 (div_i (by omega) (by omega)) ?_) | (with_reducible refine p_mul (bits_small (by omega) (by omega) _) ?_) | (with_reducible refine m_appL hll ?_) | (wtm_at "mp1"))
      rfl
    · obtain ⟨rfl, o1, rfl⟩ := h
      rw [List.take_of_length_le (by omega)]
      repeat' (first | (wtm_at "mpA") | (with_reducible apply e_call tup_cell) | (wtm_at "mp1"))
      exact r_dL

theorem idx_fr {i : Int} {xs : List D} {x : D} {M : Mem} (e2 : L2.atI xs i = some x) : idx (.fr xs) (.d (.int i)) M = .ok (.d x) M := by
  unfold idx lstOf
  dsimp only
  rw [e2]
/-- a loop that returns the first item that is so -/
theorem for_find {body : SS} {tg : Tg} {I : Env → Prop} {M : Mem} (p : D → Bool) : ∀ (items : List D) (step : ∀ d ∈ items, ∀ env, I env → ∃ e, tg.bind d env = some e ∧ (p d = true → body e M = .ok (.ret (.d d)) M) ∧ (p d = false → ∃ env', body e M = .ok (.next env') M ∧ I env')) (env : Env), I env →
    (∃ d, items.find? p = some d ∧ forL body tg [] items env M = .ok (.ret (.d d)) M) ∨ (items.find? p = none ∧ ∃ env', forL body tg [] items env M = .ok (.next env') M ∧ I env')
  | [], _, env, h => .inr ⟨rfl, env, rfl, h⟩
  | d :: r, step, env, h => by
    obtain ⟨e, e1, e2, e3⟩ := step d List.mem_cons_self env h
    cases hp : p d with
    | true =>
      refine .inl ⟨d, List.find?_cons_of_pos hp, ?_⟩
      rw [forL, if_pos (by rfl), e1]
      dsimp only
      rw [e2 hp, Out.bind_ok]
    | false =>
      obtain ⟨env1, e4, h1⟩ := e3 hp
      have hr : forL body tg [] (d :: r) env M = forL body tg [] r env1 M := by
        rw [forL, if_pos (by rfl), e1]
        dsimp only
        rw [e4, Out.bind_ok]
      rw [hr, List.find?_cons_of_neg (by rw [hp]; decide)]
      exact for_find p r (fun d hd => step d (.tail _ hd)) env1 h1
theorem e_find {β : Type} {kx : Exc → Mem → Out β} {res : Out β} {k : Fl → Mem → Out β} {body : SS} {tg : Tg} {items : List D} {env : Env} {M : Mem} (I : Env → Prop) (p : D → Bool) (h0 : I env)
    (step : ∀ d ∈ items, ∀ env, I env → ∃ e, tg.bind d env = some e ∧ (p d = true → body e M = .ok (.ret (.d d)) M) ∧ (p d = false → ∃ env', body e M = .ok (.next env') M ∧ I env'))
    (hs : ∀ d, items.find? p = some d → k (.ret (.d d)) M = res) (hn : items.find? p = none → ∀ env', I env' → k (.next env') M = res) : el (forL body tg [] items env M) k kx = res := by
  rcases for_find p items step env h0 with ⟨d, h1, h2⟩ | ⟨h1, env', h2, h3⟩
  · rw [h2]; exact hs d h1
  · rw [h2]; exact hn h1 env' h3
theorem gen_facts {x : Int} {r : List Int} (h : GenB x r = true) : r.length ≤ 11 ∧ (1 ≤ x ∧ x ≤ 1000) ∧ (∀ b ∈ r, x < b ∧ b ≤ 1000) ∧ lastI (stepsL x r) = 1 ∧ lastI (x :: r) ≤ 1000 ∧ ascZ (x :: r) = true := by
  unfold GenB at h
  simp only [Bool.and_eq_true, decide_eq_true_eq] at h
  obtain ⟨h1, h2, h3, h4, h5⟩ := h
  have f := asc_facts h4
  exact ⟨h1, ⟨h2, by omega⟩, fun b hb => by have := f.1 b hb; omega, h5, h3, h4⟩
theorem gen_sm {x : Int} {r : List Int} (h : GenB x r = true) : Small x ∧ ∀ b ∈ r, Small b := by
  have g := gen_facts h
  exact ⟨⟨by omega, by omega⟩, fun b hb => by have := g.2.2.1 b hb; exact ⟨by omega, by omega⟩⟩
theorem isgen_ok {x : Int} {r : List Int} {M : Mem} (hl : r.length ≤ 90000) : Fis_generators [.d (ti (x :: r))] M = .ok (.d (.bl (GenB x r))) M := by
  unfold Fis_generators
  refine e_fn rfl ?_
  unfold Tis_generators
  have hlen : ((((x :: r).map D.int).length : Nat) : Int) = r.length + 1 := by simp
  by_cases h1 : r.length ≤ 11
  · have n1 : (1 : Int) ≤ (((x :: r).map D.int).length : Nat) := by rw [hlen]; omega
    have n2 : ((((x :: r).map D.int).length : Nat) : Int) ≤ 12 := by rw [hlen]; omega
    by_cases h2 : 1 ≤ x
    · have n3 : ¬ x < 1 := by omega
      by_cases h3 : lastI (x :: r) ≤ 1000
      · repeat' (first | (wtm_at "mpA") | (with_reducible refine e_call (are_ok (by simp; omega)) ?_) | (with_reducible apply p_idx idx_head) | (with_reducible apply p_idx idx_last) | (with_reducible refine cut_tail ?_) | (wtm_at "mp1"))
        refine zip_map (fun p => decide (p.1 < p.2)) (fun a b => ⟨_, rfl, ?_⟩) (by simp; omega) ?_
        · refine el_start ?_
          repeat' (first | (wtm_at "mpA") | (wtm_at "mp1"))
          rfl
        have e4 : ((List.zip (x :: r) r).map fun p => decide (p.1 < p.2)).all id = ascZ (x :: r) := by rw [List.all_map]; rfl
        repeat' (first | (wtm_at "mpA") | (with_reducible apply e_call all_bls) | (wtm_at "mp1"))
        rw [e4]
        cases h4 : ascZ (x :: r) with
        | false =>
          have hc : GenB x r = false := by unfold GenB; rw [h4]; simp
          rw [hc]
          repeat' (first | (wtm_at "mpA") | (wtm_at "mp1"))
        | true =>
          have f := asc_facts h4
          have hne : stepsL x r ≠ [] := by
            intro z
            have := stepsL_len x r
            rw [z] at this
            cases this
          have i1 : idx (.fr ((stepsL x r).map .int)) (.d (.int (-1))) M = .ok (.d (.int (lastI (stepsL x r)))) M := idx_fr (atI_last hne)
          have hc : GenB x r = decide (lastI (stepsL x r) = 1) := by unfold GenB; rw [h4, decide_eq_true h1, decide_eq_true h2, decide_eq_true h3]; simp
          rw [hc]
          repeat' (first | (wtm_at "mpA") | (with_reducible refine e_call (steps_ok (show Small x from ⟨by omega, by omega⟩) (fun b hb => by have := f.1 b hb; exact ⟨by omega, by omega⟩) (by omega)) ?_) | (with_reducible apply p_idx i1) | (wtm_at "mp1"))
      · have hc : GenB x r = false := by unfold GenB; rw [decide_eq_false h3]; simp
        rw [hc]
        repeat' (first | (wtm_at "mpA") | (with_reducible refine e_call (are_ok (by simp; omega)) ?_) | (with_reducible apply p_idx idx_head) | (with_reducible apply p_idx idx_last) | (with_reducible refine cut_tail ?_) | (wtm_at "mp1"))
    · have n3 : x < 1 := by omega
      have hc : GenB x r = false := by unfold GenB; rw [decide_eq_false h2]; simp
      rw [hc]
      repeat' (first | (wtm_at "mpA") | (with_reducible refine e_call (are_ok (by simp; omega)) ?_) | (with_reducible apply p_idx idx_head) | (with_reducible apply p_idx idx_last) | (with_reducible refine cut_tail ?_) | (wtm_at "mp1"))
  · have n1 : (1 : Int) ≤ (((x :: r).map D.int).length : Nat) := by rw [hlen]; omega
    have n2 : ¬ ((((x :: r).map D.int).length : Nat) : Int) ≤ 12 := by rw [hlen]; omega
    have hc : GenB x r = false := by unfold GenB; rw [decide_eq_false h1]; simp
    rw [hc]
    repeat' (first | (wtm_at "mpA") | (with_reducible refine e_call (are_ok (by simp; omega)) ?_) | (with_reducible apply p_idx idx_head) | (with_reducible apply p_idx idx_last) | (with_reducible refine cut_tail ?_) | (wtm_at "mp1"))
theorem brk_lo {x : Int} {r : List Int} (hx : 0 < x) (hr : ∀ b ∈ r, 0 < b) {k : Nat} (hk : k < r.length) :
    brkB (x :: r) (stepsL x r) (1 + k) = (decide ((stepsL x r).getD (k + 1) 0 = (stepsL x r).getD k 0) || (decide (1 < 1 + k) && decide ((x :: r).getD (k + 1) 0 ≤ (stepsL x r).getD (k - 1) 0 / (stepsL x r).getD k 0 * (x :: r).getD k 0))) := by
  unfold brkB
  rw [show 1 + k - 1 = k by omega, show 1 + k - 2 = k - 1 by omega, show 1 + k = k + 1 by omega]

def brkV (x : Int) (r : List Int) : D := match brkL x r with | [] => .non | k :: _ => .int (1 + k)
def brkD (x : Int) (r : List Int) : D → Bool := fun d => match d with | .int i => brkB (x :: r) (stepsL x r) i.toNat | _ => false
theorem brk_find (x : Int) (r : List Int) : (rngL 1 r.length).find? (brkD x r) = (brkL x r).head?.map (fun k : Nat => D.int (1 + (k : Int))) := by
  unfold rngL brkL
  rw [List.head?_filter, List.find?_map]
  have e : (brkD x r ∘ fun k : Nat => D.int (1 + (k : Int))) = fun k => brkB (x :: r) (stepsL x r) (1 + k) := by
    funext k
    show brkB (x :: r) (stepsL x r) ((1 : Int) + k).toNat = _
    rw [show ((1 : Int) + k).toNat = 1 + k by omega]
  rw [e]
theorem brkgen_ok {x : Int} {r : List Int} {M : Mem} (h : GenB x r = true) : Fbroken_generator [.d (ti (x :: r))] M = .ok (.d (brkV x r)) M := by
  have g := gen_facts h
  have s := gen_sm h
  have hlen := stepsL_len x r
  have ig : ∀ M, Fis_generators [.d (ti (x :: r))] M = .ok (.d (.bl true)) M := fun M => by rw [isgen_ok (by omega), h]
  have hlc : ((x :: r).map D.int).length ≤ 1000000 := by simp; omega
  have st : ∀ M, Fsteps_of [.d (ti (x :: r))] M = .ok (.fr ((stepsL x r).map .int)) M := fun M => steps_ok s.1 s.2 (by omega)
  unfold Fbroken_generator
  refine e_fn rfl ?_
  unfold Tbroken_generator
  repeat' (first | (wtm_at "mpA") | (with_reducible apply e_call (ig _)) | (with_reducible refine cmp_one ?_) | (wtm_at "mp1"))
  by_cases h1 : x :: r = [1]
  · cases h1
    repeat' (first | (wtm_at "mpA") | (wtm_at "mp1"))
  rw [decide_eq_false h1]
  repeat' (first | (wtm_at "mpA") | (with_reducible apply e_call (st _)) | (wtm_at "mp1"))
  have e1 : (((x :: r).map D.int).length - 1 : Int).toNat = r.length := by simp
  dsimp only
  rw [e1]
  refine e_find (fun env => ∃ o2, env = [some (.d (ti (x :: r))), some (.d (.lst ((stepsL x r).map .int))), o2]) (brkD x r) ⟨_, rfl⟩ (fun d hd env he => ?_) (fun d hd => ?_) (fun hd env' he => ?_)
  · obtain ⟨k, hk, rfl⟩ := rngL_mem hd
    obtain ⟨o2, rfl⟩ := he
    have a1 : ((1 : Int) + k).toNat = k + 1 := by omega
    have a2 : ((1 : Int) + k - 1).toNat = k := by omega
    have i1 : ∀ M, idx (.d (.lst ((stepsL x r).map .int))) (.d (.int (1 + k - 1))) M = .ok (.d (.int ((stepsL x r).getD k 0))) M := fun M => by rw [idx_li (by omega) (by rw [hlen]; omega), a2]
    have i2 : ∀ M, idx (.d (.lst ((stepsL x r).map .int))) (.d (.int (1 + k))) M = .ok (.d (.int ((stepsL x r).getD (k + 1) 0))) M := fun M => by rw [idx_li (by omega) (by rw [hlen]; omega), a1]
    have i4 : ∀ M, idx (.d (ti (x :: r))) (.d (.int (1 + k))) M = .ok (.d (.int ((x :: r).getD (k + 1) 0))) M := fun M => by rw [idx_tiI (by omega) (by simp; omega), a1]
    have i5 : ∀ M, idx (.d (ti (x :: r))) (.d (.int (1 + k - 1))) M = .ok (.d (.int ((x :: r).getD k 0))) M := fun M => by rw [idx_tiI (by omega) (by simp; omega), a2]
    have eb : brkD x r (.int (1 + k)) = (decide ((stepsL x r).getD (k + 1) 0 = (stepsL x r).getD k 0) || (decide (1 < 1 + k) && decide ((x :: r).getD (k + 1) 0 ≤ (stepsL x r).getD (k - 1) 0 / (stepsL x r).getD k 0 * (x :: r).getD k 0))) := by
      rw [← brk_lo (by omega) (fun b hb => by have := g.2.2.1 b hb; omega) hk]
      show brkB (x :: r) (stepsL x r) ((1 : Int) + k).toNat = _
      rw [a1, show k + 1 = 1 + k by omega]
    rw [eb]
    refine ⟨_, rfl, ?_⟩
    by_cases he : (stepsL x r).getD (k + 1) 0 = (stepsL x r).getD k 0
    · rw [decide_eq_true he, Bool.true_or]
      refine ⟨fun _ => el_start ?_, fun hf => (nomatch hf)⟩
      repeat' (first | (wtm_at "mpA") | (with_reducible apply p_idx (i1 _)) | (with_reducible apply p_idx (i2 _)) | (wtm_at "mp1"))
      rfl
    · rw [decide_eq_false he, Bool.false_or]
      by_cases hk0 : k = 0
      · subst hk0
        refine ⟨fun hf => (nomatch hf), fun _ => ⟨[some (.d (ti (x :: r))), some (.d (.lst ((stepsL x r).map .int))), some (.d (.int (1 + ((0 : Nat) : Int))))], el_start ?_, _, rfl⟩⟩
        repeat' (first | (wtm_at "mpA") | (with_reducible apply p_idx (i1 _)) | (with_reducible apply p_idx (i2 _)) | (wtm_at "mp1"))
        rfl
      · obtain ⟨j, rfl⟩ : ∃ j, k = j + 1 := ⟨k - 1, by omega⟩
        have hj : ((1 : Int) + ((j + 1 : Nat) : Int) - 2).toNat = j := by omega
        have i6 : ∀ M, idx (.d (.lst ((stepsL x r).map .int))) (.d (.int (1 + ((j + 1 : Nat) : Int) - 2))) M = .ok (.d (.int ((stepsL x r).getD j 0))) M := fun M => by rw [idx_li (by omega) (by rw [hlen]; omega), hj]
        have hm := cls_mul (x := x) (r := r) (by omega) (fun b hb => by have := g.2.2.1 b hb; omega) (k := j) (by omega)
        have l1 : (1 : Int) < 1 + ((j + 1 : Nat) : Int) := by omega
        rw [decide_eq_true (show 1 < 1 + (j + 1) by omega), Bool.true_and, show j + 1 - 1 = j from rfl]
        by_cases hb : (x :: r).getD (j + 1 + 1) 0 ≤ (stepsL x r).getD j 0 / (stepsL x r).getD (j + 1) 0 * (x :: r).getD (j + 1) 0
        · rw [decide_eq_true hb]
          refine ⟨fun _ => el_start ?_, fun hf => (nomatch hf)⟩
          repeat' (first | (wtm_at "mpA") | (with_reducible apply p_idx (i1 _)) | (with_reducible apply p_idx (i2 _)) | (with_reducible apply p_idx (i4 _)) | (with_reducible apply p_idx (i5 _)) | (with_reducible apply p_idx (i6 _)) | (with_reducible refine p_div hm.1.1 (div_i (by omega) (by omega)) ?_) | (with_reducible refine p_mul (bits_small (by omega) (by omega) _) ?_) | (wtm_at "mp1"))
          rfl
        · rw [decide_eq_false hb]
          refine ⟨fun hf => (nomatch hf), fun _ => ⟨[some (.d (ti (x :: r))), some (.d (.lst ((stepsL x r).map .int))), some (.d (.int (1 + ((j + 1 : Nat) : Int))))], el_start ?_, _, rfl⟩⟩
          repeat' (first | (wtm_at "mpA") | (with_reducible apply p_idx (i1 _)) | (with_reducible apply p_idx (i2 _)) | (with_reducible apply p_idx (i4 _)) | (with_reducible apply p_idx (i5 _)) | (with_reducible apply p_idx (i6 _)) | (with_reducible refine p_div hm.1.1 (div_i (by omega) (by omega)) ?_) | (with_reducible refine p_mul (bits_small (by omega) (by omega) _) ?_) | (wtm_at "mp1"))
          rfl
  · rw [brk_find] at hd
    unfold brkV
    cases hL : brkL x r with
    | nil => rw [hL] at hd; cases hd
    | cons k l =>
      rw [hL] at hd
      cases hd
      repeat' (first | (wtm_at "mpA") | (wtm_at "mp1"))
  · rw [brk_find] at hd
    obtain ⟨o2, rfl⟩ := he
    unfold brkV
    cases hL : brkL x r with
    | nil => repeat' (first | (wtm_at "mpA") | (wtm_at "mp1"))
    | cons k l => rw [hL] at hd; cases hd

theorem col_ok {x : Int} {r : List Int} {M : Mem} (h : LotB x r = true) (hb : brkL x r = []) : Fclass_of_lot [.d (ti (x :: r))] M = .ok (.d (ti (clP x r))) M := by
  have hG : GenB x r = true := by unfold LotB at h; rw [Bool.and_eq_true] at h; exact h.1
  have lb := lot_back h hb
  have g := gen_facts hG
  have s := gen_sm hG
  have hlen := stepsL_len x r
  have ig : ∀ M, Fis_generators [.d (ti (x :: r))] M = .ok (.d (.bl true)) M := fun M => by rw [isgen_ok (by omega), hG]
  have bg : ∀ M, Fbroken_generator [.d (ti (x :: r))] M = .ok (.d .non) M := fun M => by rw [brkgen_ok hG]; unfold brkV; rw [hb]
  have st : ∀ M, Fsteps_of [.d (ti (x :: r))] M = .ok (.fr ((stepsL x r).map .int)) M := fun M => steps_ok s.1 s.2 (by omega)
  have ic : ∀ M, Fis_class [.d (ti (clP x r))] M = .ok (.d (.bl true)) M := fun M => by rw [lb.2.1, isclass_ok (by omega), lb.1]
  unfold Fclass_of_lot
  refine e_fn rfl ?_
  unfold Tclass_of_lot
  cases r with
  | nil => repeat' (first | (wtm_at "mpA") | (with_reducible apply e_call (ig _)) | (with_reducible apply e_call (bg _)) | (wtm_at "mp1"))
  | cons v vs =>
    have hlc : ((x :: v :: vs).map D.int).length ≤ 1000000 := by rw [List.length_map]; have := g.1; simp at this ⊢; omega
    have hn1 : ¬ (((x :: v :: vs).map D.int).length : Int) = 1 := by rw [List.length_map, List.length_cons, List.length_cons]; omega
    have i0 : ∀ M, idx (.d (ti (x :: v :: vs))) (.d (.int 1)) M = .ok (.d (.int v)) M := fun M => idx_tiI (by omega) (by simp; omega)
    repeat' (first | (wtm_at "mpA") | (with_reducible apply e_call (ig _)) | (with_reducible apply e_call (bg _)) | (with_reducible apply e_call (st _)) | (with_reducible apply p_idx idx_head) | (with_reducible apply p_idx (i0 _)) | (wtm_at "mp1"))
    have e1 : (((x :: v :: vs).map D.int).length - 1 - 1 : Int).toNat = vs.length := by simp
    dsimp only
    rw [e1]
    have hLl : (clP x (v :: vs)).length = vs.length + 2 := by show (clW x v v vs).length + 1 + 1 = _; rw [clW_len]
    refine e_rng (fun k env M' => M' = M ++ [some (.l (((clP x (v :: vs)).take (k + 2)).map .int))] ∧ ∃ o1, env = [some (.d (ti (x :: v :: vs))), o1, some (.d (.lst ((stepsL x (v :: vs)).map .int))), some (.cell M.length)]) ⟨rfl, _, rfl⟩ (fun k hk env M' h => ?_) (fun env M' h => ?_)
    · obtain ⟨rfl, o1, rfl⟩ := h
      have a1 : ((1 : Int) + k).toNat = k + 1 := by omega
      have a2 : ((1 : Int) + k - 1).toNat = k := by omega
      have a3 : ((1 : Int) + k + 1).toNat = k + 2 := by omega
      have hm := cls_mul (x := x) (r := v :: vs) (by omega) (fun b hb => by have := g.2.2.1 b hb; omega) (k := k) (by rw [List.length_cons]; omega)
      have i1 : ∀ M, idx (.d (.lst ((stepsL x (v :: vs)).map .int))) (.d (.int (1 + k - 1))) M = .ok (.d (.int ((stepsL x (v :: vs)).getD k 0))) M := fun M => by rw [idx_li (by omega) (by rw [hlen, List.length_cons]; omega), a2]
      have i2 : ∀ M, idx (.d (.lst ((stepsL x (v :: vs)).map .int))) (.d (.int (1 + k))) M = .ok (.d (.int ((stepsL x (v :: vs)).getD (k + 1) 0))) M := fun M => by rw [idx_li (by omega) (by rw [hlen, List.length_cons]; omega), a1]
      have i3 : ∀ M, idx (.d (ti (x :: v :: vs))) (.d (.int (1 + k + 1))) M = .ok (.d (.int ((x :: v :: vs).getD (k + 2) 0))) M := fun M => by rw [idx_tiI (by omega) (by simp; omega), a3]
      have i4 : ∀ M, idx (.d (ti (x :: v :: vs))) (.d (.int (1 + k))) M = .ok (.d (.int ((x :: v :: vs).getD (k + 1) 0))) M := fun M => by rw [idx_tiI (by omega) (by simp; omega), a1]
      have i5 : idx (.cell M.length) (.d (.int (1 + k))) (M ++ [some (.l (((clP x (v :: vs)).take (k + 2)).map .int))]) = .ok (.d (.int ((clP x (v :: vs)).getD (k + 1) 0))) (M ++ [some (.l (((clP x (v :: vs)).take (k + 2)).map .int))]) :=
        idx_cell last_get (atI_int (by omega) (by rw [List.getElem?_map, a1, List.getElem?_take_of_lt (by omega), List.getD_eq_getElem?_getD, List.getElem?_eq_getElem (by omega)]; rfl))
      have hg2 : (clP x (v :: vs)).getD (k + 2) 0 = (clP x (v :: vs)).getD (k + 1) 0 + (x :: v :: vs).getD (k + 2) 0 - (stepsL x (v :: vs)).getD k 0 / (stepsL x (v :: vs)).getD (k + 1) 0 * (x :: v :: vs).getD (k + 1) 0 := clW_get vs x v v k hk
      have ht := take_next (L := clP x (v :: vs)) (k := k + 2) (by omega) hg2
      have hll : (((clP x (v :: vs)).take (k + 2)).map D.int).length < 1000000 := by rw [List.length_map, List.length_take]; have := g.1; rw [List.length_cons] at this; omega
      refine ⟨_, _, _, rfl, el_start ?_, ⟨by rw [show k + 1 + 2 = k + 2 + 1 by omega, ht, List.map_append], some (.d (.int (1 + k))), rfl⟩⟩
      clear hg2 ht e1 hn1 st ic ig bg
      generalize (stepsL x (v :: vs)).getD k 0 = E0 at *
      generalize (stepsL x (v :: vs)).getD (k + 1) 0 = E1 at *
      repeat' (first | (wtm_at "mpA") | (with_reducible apply p_idx (i1 _)) | (with_reducible apply p_idx (i2 _)) | (with_reducible apply p_idx (i3 _)) | (with_reducible apply p_idx (i4 _)) | (with_reducible apply p_idx i5) | (with_reducible refine p_div hm.1.1 (div_i (by omega) (by omega)) ?_) | (with_reducible refine p_mul (bits_small (by omega) (by omega) _) ?_) | (with_reducible refine m_appL hll ?_) | (wtm_at "mp1"))
      rfl
    · obtain ⟨rfl, o1, rfl⟩ := h
      rw [List.take_of_length_le (by omega)]
      repeat' (first | (wtm_at "mpA") | (with_reducible apply e_call tup_cell) | (with_reducible apply e_call (ic _)) | (wtm_at "mp1"))
      exact r_dL
def lotV (x : Int) (r : List Int) : D := match brkL x r with | [] => .tup [.str "class", ti (clP x r)] | k :: _ => .tup [.str "place", .int (1 + k)]

theorem bez : ∀ (n : Nat) (a b : Int), 0 ≤ a → 0 ≤ b → b.toNat ≤ n → ∃ x y : Int, a * x + b * y = Int.gcd a b
  | n, a, b, ha, hb, hn => by
    by_cases hz : 0 < b
    · cases n with
      | zero => omega
      | succ n =>
        have h1 := Int.emod_nonneg a (b := b) (by omega)
        have h2 := Int.emod_lt_of_pos a hz
        obtain ⟨x, y, h⟩ := bez n b (a % b) hb h1 (by omega)
        rw [gcd_step ha hz] at h
        refine ⟨y, x - a / b * y, ?_⟩
        rw [← h]
        have h3 := Int.mul_ediv_add_emod a b
        generalize a / b = q at *
        generalize a % b = r at *
        subst h3
        grind
    · have e : b = 0 := by omega
      subst e
      exact ⟨1, 0, by rw [Int.gcd_zero_right]; omega⟩
/-- sums that lie in mirror -/
structure Sg (S : Int → Prop) (e F : Int) : Prop where
  zero : S 0
  pos : ∀ n, S n → 0 ≤ n
  add : ∀ a b, S a → S b → S (a + b)
  dvd : ∀ n, S n → e ∣ n
  sym : ∀ n, e ∣ n → (S n ↔ ¬ S (F - n))
  fd : e ∣ F
def addG (S : Int → Prop) (v m : Int) : Prop := ∃ b : Nat, S (m - b * v)
theorem Sg.mul {S : Int → Prop} {e F : Int} (h : Sg S e F) {u : Int} (hu : S u) : ∀ t : Nat, S (t * u)
  | 0 => by
    have := h.zero
    simpa using this
  | t + 1 => by
    have := h.add _ _ (Sg.mul h hu t) hu
    have e : ((t + 1 : Nat) : Int) * u = t * u + u := by push_cast; rw [Int.add_mul, Int.one_mul]
    rw [e]
    exact this
theorem sg_base {x : Int} (hx : 0 < x) : Sg (fun n => 0 ≤ n ∧ x ∣ n) x (-x) := by
  refine ⟨⟨Int.le_refl 0, ⟨0, by simp⟩⟩, fun n h => h.1, fun a b ha hb => ⟨by omega, Int.dvd_add ha.2 hb.2⟩, fun n h => h.2, fun n hn => ?_, ⟨-1, by omega⟩⟩
  obtain ⟨k, rfl⟩ := hn
  constructor
  · intro h1 h2
    omega
  · intro h1
    refine ⟨Decidable.byContradiction fun h2 => h1 ⟨?_, ?_⟩, ⟨k, rfl⟩⟩
    · have hk : k < 0 := Decidable.byContradiction fun z => h2 (Int.mul_nonneg (by omega) (by omega))
      have : x * k ≤ x * (-1) := Int.mul_le_mul_of_nonneg_left (by omega) (by omega)
      omega
    · exact Int.dvd_sub ⟨-1, by omega⟩ ⟨k, rfl⟩
/-- where a sum with one more generator stands -/
theorem add_at {S : Int → Prop} {e F v : Int} (h : Sg S e F) (he : 0 < e) (hv : 0 < v) (hn : S (e / Int.gcd e v * v)) {m : Int} {a : Nat} (ha : (a : Int) < e / Int.gcd e v) (hd : e ∣ m - a * v) : addG S v m ↔ S (m - a * v) := by
  have hg := gcd_p (c := v) he
  obtain ⟨x, y, hxy⟩ := bez _ e v (by omega) (by omega) (Nat.le_refl _)
  obtain ⟨n, hn'⟩ := Int.gcd_dvd_left e v
  have en : e / Int.gcd e v = n := by
    have : e / (Int.gcd e v : Int) = (Int.gcd e v : Int) * n / (Int.gcd e v : Int) := by rw [← hn']
    rw [this, Int.mul_ediv_cancel_left _ (by omega)]
  rw [en] at hn ha
  constructor
  · rintro ⟨b, hb⟩
    have d1 : e ∣ ((b : Int) - a) * v := by
      have := Int.dvd_sub hd (h.dvd _ hb)
      rw [show m - a * v - (m - b * v) = ((b : Int) - a) * v by rw [Int.sub_mul]; omega] at this
      exact this
    have d2 : e ∣ ((b : Int) - a) * Int.gcd e v := by
      rw [← hxy, Int.mul_add]
      refine Int.dvd_add ?_ ?_
      · exact ⟨((b : Int) - a) * x, by rw [← Int.mul_assoc, Int.mul_comm ((b : Int) - a) e, Int.mul_assoc]⟩
      · rw [← Int.mul_assoc]
        exact Int.dvd_mul_of_dvd_left d1
    have d3 : n ∣ (b : Int) - a := by
      obtain ⟨t, ht⟩ := d2
      refine ⟨t, ?_⟩
      have : (Int.gcd e v : Int) * ((b : Int) - a) = (Int.gcd e v : Int) * (n * t) := by
        rw [Int.mul_comm, ht]
        rw [← Int.mul_assoc, ← hn']
      exact Int.eq_of_mul_eq_mul_left (by omega) this
    obtain ⟨t, ht⟩ := d3
    have hnp : 0 < n := by omega
    have ht0 : 0 ≤ t := by
      apply Decidable.byContradiction
      intro z
      have : n * t ≤ n * (-1) := Int.mul_le_mul_of_nonneg_left (by omega) (by omega)
      omega
    have := h.add _ _ hb (h.mul hn t.toNat)
    rw [Int.toNat_of_nonneg ht0] at this
    have e3 : m - b * v + t * (n * v) = m - a * v := by
      have e4 : (b : Int) = a + n * t := by omega
      rw [e4]
      grind
    rw [e3] at this
    exact this
  · intro h2
    exact ⟨a, h2⟩
theorem at_ex {e v m : Int} (he : 0 < e) (hv : 0 < v) (hm : (Int.gcd e v : Int) ∣ m) : ∃ a : Nat, (a : Int) < e / Int.gcd e v ∧ e ∣ m - a * v := by
  have hg := gcd_p (c := v) he
  obtain ⟨x, y, hxy⟩ := bez _ e v (by omega) (by omega) (Nat.le_refl _)
  obtain ⟨n, hn'⟩ := Int.gcd_dvd_left e v
  obtain ⟨w, hw⟩ := Int.gcd_dvd_right e v
  obtain ⟨k, rfl⟩ := hm
  have en : e / Int.gcd e v = n := by
    have : e / (Int.gcd e v : Int) = (Int.gcd e v : Int) * n / (Int.gcd e v : Int) := by rw [← hn']
    rw [this, Int.mul_ediv_cancel_left _ (by omega)]
  rw [en]
  have hnp : 0 < n := by
    apply Decidable.byContradiction
    intro z
    have : (Int.gcd e v : Int) * n ≤ (Int.gcd e v : Int) * 0 := Int.mul_le_mul_of_nonneg_left (by omega) (by omega)
    omega
  have h1 := Int.emod_nonneg (y * k) (b := n) (by omega)
  have h2 := Int.emod_lt_of_pos (y * k) hnp
  have h3 := Int.mul_ediv_add_emod (y * k) n
  refine ⟨((y * k) % n).toNat, by omega, ?_⟩
  rw [Int.toNat_of_nonneg h1]
  generalize (y * k) % n = r at *
  generalize (y * k) / n = q at *
  generalize (Int.gcd e v : Int) = g at *
  refine ⟨x * k + w * q, ?_⟩
  have e1 : r = y * k - n * q := by omega
  rw [e1]
  have e2 : g * k = (e * x + v * y) * k := by rw [hxy]
  rw [e2]
  have e3 : v * (n * q) = e * (w * q) := by
    rw [hw]
    conv => rhs; rw [hn']
    grind
  grind
theorem sg_step {S : Int → Prop} {e F v : Int} (h : Sg S e F) (he : 0 < e) (hv : 0 < v) (hF : F < e / Int.gcd e v * v) : Sg (addG S v) (Int.gcd e v) (F + (e / Int.gcd e v - 1) * v) := by
  have hg := gcd_p (c := v) he
  have dge : (Int.gcd e v : Int) ∣ e := Int.gcd_dvd_left ..
  have dgv : (Int.gcd e v : Int) ∣ v := Int.gcd_dvd_right ..
  have hdn : e ∣ e / Int.gcd e v * v := by
    obtain ⟨w, hw⟩ := dgv
    refine ⟨w, ?_⟩
    have h2 := Int.ediv_mul_cancel dge
    have h3 : e / Int.gcd e v * v = e / Int.gcd e v * ((Int.gcd e v : Int) * w) := congrArg (e / Int.gcd e v * ·) hw
    rw [h3, ← Int.mul_assoc, h2]
  have hn : S (e / Int.gcd e v * v) := by
    rw [h.sym _ hdn]
    intro z
    have := h.pos _ z
    omega
  refine ⟨⟨0, by simpa using h.zero⟩, ?_, ?_, ?_, ?_, ?_⟩
  · rintro n ⟨b, hb⟩
    have := h.pos _ hb
    have : 0 ≤ (b : Int) * v := Int.mul_nonneg (by omega) (by omega)
    omega
  · rintro a b ⟨i, hi⟩ ⟨j, hj⟩
    refine ⟨i + j, ?_⟩
    have := h.add _ _ hi hj
    rw [show a + b - ((i + j : Nat) : Int) * v = a - i * v + (b - j * v) by push_cast; rw [Int.add_mul]; omega]
    exact this
  · rintro n ⟨b, hb⟩
    have h1 := Int.dvd_trans dge (h.dvd _ hb)
    have h2 : (Int.gcd e v : Int) ∣ (b : Int) * v := Int.dvd_mul_of_dvd_right dgv
    have := Int.dvd_add h1 h2
    rw [show n - b * v + b * v = n by omega] at this
    exact this
  · intro m hm
    obtain ⟨a, ha, hd⟩ := at_ex he hv hm
    rw [add_at h he hv hn ha hd]
    have a1 : ((e / Int.gcd e v - 1 - a).toNat : Int) = e / Int.gcd e v - 1 - a := Int.toNat_of_nonneg (by omega)
    have e1 : F + (e / Int.gcd e v - 1) * v - m - ((e / Int.gcd e v - 1 - a).toNat : Int) * v = F - (m - a * v) := by
      rw [a1]
      generalize e / (Int.gcd e v : Int) = n
      grind
    rw [add_at h he hv hn (a := (e / Int.gcd e v - 1 - a).toNat) (by omega) (by rw [e1]; exact Int.dvd_sub h.fd hd), e1]
    exact h.sym _ hd
  · exact Int.dvd_add (Int.dvd_trans dge h.fd) (Int.dvd_mul_of_dvd_right dgv)

def Sv (S : Int → Prop) : List Int → Int → Prop
  | [] => S
  | v :: vs => Sv (addG S v) vs
def FrW : Int → Int → Int → List Int → Int
  | e, F, v, [] => F + (e / Int.gcd e v - 1) * v
  | e, F, v, w :: ws => FrW (Int.gcd e v) (F + (e / Int.gcd e v - 1) * v) w ws
theorem q_div {e v : Int} (he : 0 < e) : ∃ n : Int, e / Int.gcd e v = n ∧ e = Int.gcd e v * n ∧ 1 ≤ n := by
  have hg := gcd_p (c := v) he
  obtain ⟨n, hn⟩ := Int.gcd_dvd_left e v
  refine ⟨n, ?_, hn, ?_⟩
  · have : e / (Int.gcd e v : Int) = (Int.gcd e v : Int) * n / (Int.gcd e v : Int) := by rw [← hn]
    rw [this, Int.mul_ediv_cancel_left _ (by omega)]
  · apply Decidable.byContradiction
    intro z
    have : (Int.gcd e v : Int) * n ≤ (Int.gcd e v : Int) * 0 := Int.mul_le_mul_of_nonneg_left (by omega) (by omega)
    omega
theorem sg_all : ∀ (ws : List Int) (S : Int → Prop) (e F v : Int), Sg S e F → 0 < e → 0 < v → F < v → LW e v ws → Sg (Sv S (v :: ws)) 1 (FrW e F v ws)
  | [], S, e, F, v, h, he, hv, hF, hw => by
    have hq := q_ge (v := v) he (by omega)
    have := sg_step h he hv (by omega)
    rw [hw.1] at this
    show Sg (addG S v) 1 (F + (e / Int.gcd e v - 1) * v)
    rw [hw.1]
    exact this
  | w :: ws, S, e, F, v, h, he, hv, hF, hw => by
    have hq := q_ge (v := v) he (by omega)
    have st := sg_step h he hv (by omega)
    have e1 : (e / Int.gcd e v - 1) * v = e / Int.gcd e v * v - v := by rw [Int.sub_mul, Int.one_mul]
    exact sg_all ws _ _ _ w st (gcd_p he) (by have := hw.2.1; omega) (by rw [e1]; have := hw.2.1; omega) hw.2.2
theorem lw_lot : ∀ (ds : List Int) (e b v c : Int), 0 < e → Int.gcd e v = Int.gcd e c → CW e b (c :: ds) → ascZ (c :: ds) = true →
    LW e v (lotW e v c ds) ∧ ∀ F, FrW e F v (lotW e v c ds) = F + (e - 1) * (v - c) + condW e (c :: ds)
  | [], e, b, v, c, he, hg, h, _ => by
    have g1 : (Int.gcd e c : Int) = 1 := h.2.2
    have g2 : Int.gcd e v = 1 := by omega
    refine ⟨⟨g2, by rw [hg]; exact h.2.1⟩, fun F => ?_⟩
    show F + (e / Int.gcd e v - 1) * v = F + (e - 1) * (v - c) + ((e - Int.gcd e c) * c + 0)
    rw [g2, g1, show ((1 : Nat) : Int) = 1 from rfl, Int.ediv_one, Int.mul_sub]
    omega
  | d :: ds, e, b, v, c, he, hg, h, ha => by
    have hp := gcd_p (c := v) he
    have ha2 : (decide (c < d) && ascZ (d :: ds)) = true := ha
    rw [Bool.and_eq_true, decide_eq_true_eq] at ha2
    have d1 : (Int.gcd e v : Int) ∣ e / Int.gcd e v * v := Int.dvd_mul_of_dvd_right (Int.gcd_dvd_right ..)
    have d2 : (Int.gcd e v : Int) ∣ c := by rw [hg]; exact Int.gcd_dvd_right ..
    have d3 : (Int.gcd e v : Int) ∣ e / Int.gcd e v * v + d - c - d := by
      rw [show e / Int.gcd e v * v + d - c - d = e / Int.gcd e v * v - c by omega]
      exact Int.dvd_sub d1 d2
    have h3 : CW (Int.gcd e v) c (d :: ds) := by rw [hg]; exact h.2.2
    have ih := lw_lot ds (Int.gcd e v) c (e / Int.gcd e v * v + d - c) d hp (gcd_eqm d3) h3 ha2.2
    have eL : lotW e v c (d :: ds) = (e / Int.gcd e v * v + d - c) :: lotW (Int.gcd e v) (e / Int.gcd e v * v + d - c) d ds := by
      show (e / Int.gcd e c * v + d - c) :: lotW (Int.gcd e c) (e / Int.gcd e c * v + d - c) d ds = _
      rw [hg]
    rw [eL]
    refine ⟨⟨by rw [hg]; exact h.2.1, by omega, ih.1⟩, fun F => ?_⟩
    show FrW (Int.gcd e v) (F + (e / Int.gcd e v - 1) * v) _ _ = _
    rw [ih.2]
    have e5 : condW e (c :: d :: ds) = (e - Int.gcd e v) * c + condW (Int.gcd e v) (d :: ds) := by
      show (e - Int.gcd e c) * c + condW (Int.gcd e c) (d :: ds) = _
      rw [hg]
    rw [e5]
    obtain ⟨n, hn, hen, _⟩ := q_div (v := v) he
    rw [hn]
    generalize condW (Int.gcd e v) (d :: ds) = q
    generalize (Int.gcd e v : Int) = g at *
    subst hen
    grind
/-- the sums of a row of numbers -/
inductive InG (lot : List Int) : Int → Prop
  | zero : InG lot 0
  | add (v n : Int) : v ∈ lot → InG lot n → InG lot (n + v)
def SumL : List Int → Int → Prop
  | [] => fun n => n = 0
  | x :: vs => Sv (fun n => 0 ≤ n ∧ x ∣ n) vs
theorem ing_mul {lot : List Int} {v n : Int} (hv : v ∈ lot) (h : InG lot n) : ∀ b : Nat, InG lot (n + b * v)
  | 0 => by simpa using h
  | b + 1 => by
    have := InG.add v _ hv (ing_mul hv h b)
    rw [show n + ((b + 1 : Nat) : Int) * v = n + b * v + v by push_cast; rw [Int.add_mul, Int.one_mul]; omega]
    exact this
theorem sv_ing {lot : List Int} : ∀ (vs : List Int) (S : Int → Prop), (∀ v ∈ vs, v ∈ lot) → (∀ n, S n → InG lot n) → ∀ n, Sv S vs n → InG lot n
  | [], S, _, h, n, hn => h n hn
  | v :: vs, S, hv, h, n, hn => by
    refine sv_ing vs (addG S v) (fun u hu => hv u (.tail _ hu)) (fun m hm => ?_) n hn
    obtain ⟨b, hb⟩ := hm
    have := ing_mul (hv v List.mem_cons_self) (h _ hb) b
    rw [show m - b * v + b * v = m by omega] at this
    exact this
theorem sv_cl : ∀ (vs : List Int) (S : Int → Prop), S 0 → (∀ a b, S a → S b → S (a + b)) → (∀ n, S n → Sv S vs n) ∧ (∀ v ∈ vs, ∀ n, Sv S vs n → Sv S vs (n + v)) ∧ (∀ a b, Sv S vs a → Sv S vs b → Sv S vs (a + b))
  | [], S, h0, ha => ⟨fun n h => h, fun v hv => (nomatch hv), ha⟩
  | v :: vs, S, h0, ha => by
    have z : addG S v 0 := ⟨0, by simpa using h0⟩
    have az : ∀ a b, addG S v a → addG S v b → addG S v (a + b) := by
      rintro a b ⟨i, hi⟩ ⟨j, hj⟩
      refine ⟨i + j, ?_⟩
      have := ha _ _ hi hj
      rw [show a + b - ((i + j : Nat) : Int) * v = a - i * v + (b - j * v) by push_cast; rw [Int.add_mul]; omega]
      exact this
    have ih := sv_cl vs (addG S v) z az
    refine ⟨fun n h => ih.1 n ⟨0, by simpa using h⟩, fun u hu n hn => ?_, ih.2.2⟩
    rcases List.mem_cons.mp hu with rfl | hu
    · exact ih.2.2 _ _ hn (ih.1 _ ⟨1, by simpa using h0⟩)
    · exact ih.2.1 u hu n hn
theorem sl_iff (x : Int) (vs : List Int) (hx : 0 < x) (n : Int) : InG (x :: vs) n ↔ SumL (x :: vs) n := by
  have cl := sv_cl vs (fun n => 0 ≤ n ∧ x ∣ n) ⟨Int.le_refl 0, ⟨0, by simp⟩⟩ (fun a b ha hb => ⟨by omega, Int.dvd_add ha.2 hb.2⟩)
  constructor
  · intro h
    induction h with
    | zero => exact cl.1 0 ⟨Int.le_refl 0, ⟨0, by simp⟩⟩
    | add v n hv _ ih =>
      rcases List.mem_cons.mp hv with rfl | hv
      · exact cl.2.2 _ _ ih (cl.1 _ ⟨by omega, ⟨1, by simp⟩⟩)
      · exact cl.2.1 v hv n ih
  · intro h
    refine sv_ing vs _ (fun v hv => .tail _ hv) (fun m hm => ?_) n h
    obtain ⟨h0, k, rfl⟩ := hm
    have hk : 0 ≤ k := by
      apply Decidable.byContradiction
      intro z
      have : x * k ≤ x * (-1) := Int.mul_le_mul_of_nonneg_left (by omega) (by omega)
      omega
    have := ing_mul (lot := x :: vs) List.mem_cons_self InG.zero k.toNat
    rw [Int.toNat_of_nonneg hk, Int.zero_add, Int.mul_comm] at this
    exact this
/-- the lot of a class lies in mirror -/
theorem lot_sym {x : Int} {r : List Int} (h : clsB x r = true) : Sg (InG (lotP x r)) 1 (condI (x :: r) (stepsL x r) - 1) := by
  have tr : ∀ {S T : Int → Prop} {F : Int}, (∀ n, S n ↔ T n) → Sg T 1 F → Sg S 1 F := fun he hs => by
    have : ∀ n, _ := he
    refine ⟨(he 0).mpr hs.zero, fun n hn => hs.pos n ((he n).mp hn), fun a b ha hb => (he _).mpr (hs.add a b ((he a).mp ha) ((he b).mp hb)), fun n hn => hs.dvd n ((he n).mp hn), fun n hn => ?_, hs.fd⟩
    rw [he, he]
    exact hs.sym n hn
  cases r with
  | nil =>
    cases cls_one h
    have b := sg_base (x := 1) (by decide)
    exact tr (fun n => sl_iff 1 [] (by decide) n) b
  | cons c cs =>
    obtain ⟨hx, hcw, c', cs', e, hxc⟩ := cls_cw (List.cons_ne_nil _ _) h
    cases e
    have haz : ascZ (c :: cs) = true := by
      unfold clsB at h
      simp only [Bool.or_eq_true, Bool.and_eq_true, decide_eq_true_eq] at h
      rcases h with h | ⟨_, _, h3, _⟩
      · exact absurd (List.cons.inj h).2 (by simp)
      · have a1 : (decide (x < c) && ascZ (c :: cs)) = true := h3
        rw [Bool.and_eq_true] at a1
        exact a1.2
    have hl := lw_lot cs x 0 c c (by omega) rfl hcw haz
    have sg := sg_all (lotW x c c cs) _ x (-x) c (sg_base (by omega)) (by omega) (by omega) (by omega) hl.1
    have ecd : condI (x :: c :: cs) (stepsL x (c :: cs)) = condW x (c :: cs) - x + 1 := by
      unfold condI
      rw [show (x :: c :: cs).length - 1 = (c :: cs).length from rfl, condI_W]
      rfl
    rw [hl.2, Int.sub_self, Int.mul_zero] at sg
    rw [ecd, show condW x (c :: cs) - x + 1 - 1 = -x + 0 + condW x (c :: cs) by omega]
    exact tr (fun n => sl_iff x (c :: lotW x c c cs) (by omega) n) sg

theorem lastK_get {M : Mem} {kvs : List (Int × D)} : (M ++ [some (MC.k kvs)])[M.length]? = some (some (MC.k kvs)) := by simp
theorem lastK_set {M : Mem} {kvs k2 : List (Int × D)} : (M ++ [some (MC.k kvs)]).set M.length (some (MC.k k2)) = M ++ [some (MC.k k2)] := by simp
def endKk (n : Nat) (fl : Fl) (M : Mem) : OutK := match fl with
  | .ret (.cell i) => if i < n then .bad else match M[i]? with
    | some (some (.k kvs)) => .ok kvs (M.take n)
    | _ => .bad
  | _ => .bad
theorem e_fnK {np n : Nat} {b : SS} {avs : List AV} {M : Mem} {res : OutK} (hl : avs.length = np) (h : el (b (initEnv n avs) M) (fun fl M' => endKk M.length fl M') (fun e M' => .exc e (M'.take M.length)) = res) : fnRunK np n b avs M = res := by
  rw [← h]
  unfold fnRunK
  rw [if_pos hl]
  cases b (initEnv n avs) M with
  | bad => rfl
  | exc e M' => rfl
  | ok fl M' =>
    cases fl with
    | ret av => cases av <;> rfl
    | _ => rfl
theorem endKk_ok {M : Mem} {kvs : List (Int × D)} : endKk M.length (.ret (.cell M.length)) (M ++ [some (.k kvs)]) = .ok kvs M := by
  unfold endKk
  dsimp only
  rw [if_neg (Nat.lt_irrefl _), lastK_get]
  dsimp only
  rw [List.take_left]
theorem hasK_put {kvs : List (Int × D)} {i : Int} {d : D} (h : hasK kvs i = false) (m : Int) : hasK (putL kvs i d) m = (hasK kvs m || decide (i = m)) := by
  unfold putL
  rw [h, if_neg (by decide)]
  unfold hasK
  rw [List.any_append]
  simp
theorem put_len {kvs : List (Int × D)} {i : Int} {d : D} (h : hasK kvs i = false) : (putL kvs i d).length = kvs.length + 1 := by
  unfold putL
  rw [h, if_neg (by decide), List.length_append]
  rfl
theorem ing_pos {lot : List Int} (hp : ∀ v ∈ lot, 0 < v) {n : Int} (h : InG lot n) : 0 ≤ n := by
  induction h with
  | zero => exact Int.le_refl 0
  | add v n hv _ ih => have := hp v hv; omega
theorem ing_last {lot : List Int} {n : Int} (h : InG lot n) (hn : n ≠ 0) : ∃ v m, v ∈ lot ∧ InG lot m ∧ n = m + v := by
  cases h with
  | zero => exact absurd rfl hn
  | add v m hv hm => exact ⟨v, m, hv, hm, rfl⟩
def SumK (lot : List Int) (most : Int) (kvs : List (Int × D)) : Prop := ∀ m : Int, hasK kvs m = true ↔ 0 ≤ m ∧ m ≤ most ∧ InG lot m
theorem any_map {bs : List Int} {p : Int → Bool} {M : Mem} : anyOp [.d (.lst (bs.map fun v => D.bl (p v)))] M = .ok (.d (.bl (bs.any p))) M := by
  have := any_bls (bs := bs.map p) (M := M)
  rw [List.map_map, List.any_map] at this
  exact this
theorem sums_ok {lot : List Int} {most : Int} (hp : ∀ v ∈ lot, 0 < v) (hl : lot.length ≤ 1000) (hm : 0 ≤ most ∧ most ≤ 100000) {M : Mem} : ∃ kvs, F_law_sums [.d (ti lot), .d (.int most)] M = .ok kvs M ∧ SumK lot most kvs := by
  have hlm : (lot.map D.int).length ≤ 1000000 := by rw [List.length_map]; omega
  have loop : ∃ kvs o3, SumK lot most kvs ∧ forL
      (sSeq2 (sIfS (sB (sArgs anyOp (sCons (sComp (sSeq (sVar 0)) (.name 4) sYes (sInD false (sBin .Sub (sVar 3) (sVar 4)) (sVar 2)) (([("v", 4)] : List (Str × Nat)).map (·.2))) sNil)))
       (sSeq2 (sPutD (sVar 2) (sVar 3) (sCon (.bl true)))
       sSkip)
       sSkip)
       sSkip) (.name 3) [] (rngL 1 most.toNat) [some (.d (ti lot)), some (.d (.int most)), some (.cell M.length), none, none] (M ++ [some (.k [(0, .bl true)])]) = .ok (.next [some (.d (ti lot)), some (.d (.int most)), some (.cell M.length), o3, none]) (M ++ [some (.k kvs)]) := by
    obtain ⟨env', M', e, kvs, o3, h1, h2, rfl, rfl⟩ := for_pre (φ := fun k : Nat => D.int (1 + (k : Int))) (tg := .name 3) (body := (sSeq2 (sIfS (sB (sArgs anyOp (sCons (sComp (sSeq (sVar 0)) (.name 4) sYes (sInD false (sBin .Sub (sVar 3) (sVar 4)) (sVar 2)) (([("v", 4)] : List (Str × Nat)).map (·.2))) sNil))) (sSeq2 (sPutD (sVar 2) (sVar 3) (sCon (.bl true))) sSkip) sSkip) sSkip)) (I := fun (d : List Nat) env M' => ∃ kvs o3, SumK lot d.length kvs ∧ kvs.length ≤ d.length + 1 ∧ env = [some (.d (ti lot)), some (.d (.int most)), some (.cell M.length), o3, none] ∧ M' = M ++ [some (.k kvs)]) (List.range most.toNat) [] (fun d k r hk env M' h => by
      obtain ⟨kvs, o3, h1, h2, rfl, rfl⟩ := h
      have hdk : k = d.length := by
        have := congrArg (fun l => l[d.length]?) hk
        simp only [List.nil_append, List.getElem?_append_right (Nat.le_refl _), Nat.sub_self, List.getElem?_cons_zero] at this
        rw [List.getElem?_eq_some_iff] at this
        obtain ⟨h1, h2⟩ := this
        rw [List.getElem_range] at h2
        exact h2.symm
      have hdl : d.length < most.toNat := by
        have := congrArg List.length hk
        simp at this
        omega
      subst hdk
      have hno : hasK kvs (1 + (d.length : Int)) = false := by
        cases hz : hasK kvs (1 + (d.length : Int)) with
        | false => rfl
        | true => have := (h1 _).mp hz; omega
      have hB : lot.any (fun v => hasK kvs (1 + (d.length : Int) - v)) = true ↔ InG lot (1 + (d.length : Int)) := by
        rw [List.any_eq_true]
        constructor
        · rintro ⟨v, hv, h3⟩
          have := InG.add v _ hv ((h1 _).mp h3).2.2
          rw [show 1 + (d.length : Int) - v + v = 1 + d.length by omega] at this
          exact this
        · intro h3
          obtain ⟨v, m, hv, hm', e⟩ := ing_last h3 (by omega)
          have := hp v hv
          have := ing_pos hp hm'
          exact ⟨v, hv, (h1 _).mpr ⟨by omega, by omega, by rw [show 1 + (d.length : Int) - v = m by omega]; exact hm'⟩⟩
      have hc : (M ++ [some (MC.k kvs)])[M.length]? = some (some (.k kvs)) := lastK_get
      cases hBv : lot.any (fun v => hasK kvs (1 + (d.length : Int) - v)) with
      | true =>
        have pu := dPut_k (d := .bl true) (i := 1 + (d.length : Int)) hc (by omega)
        rw [lastK_set] at pu
        refine ⟨_, [some (.d (ti lot)), some (.d (.int most)), some (.cell M.length), some (.d (.int (1 + (d.length : Int)))), none], M ++ [some (.k (putL kvs (1 + (d.length : Int)) (.bl true)))], rfl, el_start ?_, putL kvs (1 + (d.length : Int)) (.bl true), _, fun m => ?_, ?_, rfl, rfl⟩
        · repeat' (first | (wtm_at "mpA") | (wtm_at "mp0"))
          refine e_compA lot (fun v => .bl (hasK kvs (1 + (d.length : Int) - v))) (fun v hv => ⟨_, rfl, .d (.bl (hasK kvs (1 + (d.length : Int) - v))), el_start ?_, rfl⟩) (by omega) ?_
          · refine e_inD ?_
            repeat' (first | (wtm_at "mpA") | (with_reducible refine p_inD (dIn_k hc) ?_) | (wtm_at "mp1"))
            simp
          · have an := any_map (bs := lot) (p := fun v => hasK kvs (1 + (d.length : Int) - v)) (M := M ++ [some (.k kvs)])
            rw [hBv] at an
            repeat' (first | (wtm_at "mpA") | (with_reducible apply e_call an) | (with_reducible refine e_putD ?_) | (with_reducible refine p_putD pu ?_) | (wtm_at "mp1"))
            rfl
        · rw [hasK_put hno, Bool.or_eq_true, h1 m, decide_eq_true_eq]
          have := hB.mp hBv
          rw [List.length_append, List.length_singleton]
          push_cast
          constructor
          · rintro (⟨a, b, c⟩ | rfl)
            · exact ⟨a, by omega, c⟩
            · exact ⟨by omega, by omega, this⟩
          · rintro ⟨a, b, c⟩
            by_cases hz : m ≤ d.length
            · exact .inl ⟨a, hz, c⟩
            · exact .inr (by omega)
        · rw [put_len hno, List.length_append, List.length_singleton]
          omega
      | false =>
        refine ⟨_, [some (.d (ti lot)), some (.d (.int most)), some (.cell M.length), some (.d (.int (1 + (d.length : Int)))), none], M ++ [some (.k kvs)], rfl, el_start ?_, kvs, _, fun m => ?_, by rw [List.length_append, List.length_singleton]; omega, rfl, rfl⟩
        · repeat' (first | (wtm_at "mpA") | (wtm_at "mp0"))
          refine e_compA lot (fun v => .bl (hasK kvs (1 + (d.length : Int) - v))) (fun v hv => ⟨_, rfl, .d (.bl (hasK kvs (1 + (d.length : Int) - v))), el_start ?_, rfl⟩) (by omega) ?_
          · refine e_inD ?_
            repeat' (first | (wtm_at "mpA") | (with_reducible refine p_inD (dIn_k hc) ?_) | (wtm_at "mp1"))
            simp
          · have an := any_map (bs := lot) (p := fun v => hasK kvs (1 + (d.length : Int) - v)) (M := M ++ [some (.k kvs)])
            rw [hBv] at an
            repeat' (first | (wtm_at "mpA") | (with_reducible apply e_call an) | (wtm_at "mp1"))
            rfl
        · rw [h1 m, List.length_append, List.length_singleton]
          push_cast
          constructor
          · rintro ⟨a, b, c⟩
            exact ⟨a, by omega, c⟩
          · rintro ⟨a, b, c⟩
            refine ⟨a, ?_, c⟩
            by_cases hz : m ≤ d.length
            · exact hz
            · have : m = 1 + d.length := by omega
              subst this
              have := hB.mpr c
              rw [hBv] at this
              cases this) _ _ ⟨[(0, .bl true)], none, fun m => by
        unfold hasK
        simp only [List.any_cons, List.any_nil, Bool.or_false, decide_eq_true_eq, List.length_nil]
        constructor
        · rintro rfl
          exact ⟨Int.le_refl 0, Int.le_refl 0, .zero⟩
        · rintro ⟨a, b, c⟩
          have b2 : m ≤ 0 := b
          omega, Nat.le_refl _, rfl, rfl⟩
    refine ⟨kvs, o3, ?_, e⟩
    rw [List.nil_append, List.length_range, Int.toNat_of_nonneg hm.1] at h1
    exact h1
  obtain ⟨kvs, o3, h1, e⟩ := loop
  refine ⟨kvs, ?_, h1⟩
  unfold F_law_sums
  refine e_fnK rfl ?_
  unfold T_law_sums
  have en : (most + 1 - 1 : Int).toNat = most.toNat := by omega
  repeat' (first | (wtm_at "mpA") | (with_reducible refine e_newD ?_) | (wtm_at "mp0"))
  dsimp only
  rw [en]
  refine e_next e ?_
  repeat' (first | (wtm_at "mpA") | (wtm_at "mp1"))
  exact endKk_ok

theorem clP_head (x : Int) (r : List Int) : clP x r = x :: (clP x r).tail := by cases r <;> rfl
theorem clP_len (x : Int) (r : List Int) : (clP x r).tail.length = r.length := by
  cases r with
  | nil => rfl
  | cons v vs => show (clW x v v vs).length + 1 = vs.length + 1; rw [clW_len]
theorem colg_ok {x : Int} {r : List Int} {M : Mem} (hG : GenB x r = true) (hb : brkL x r = []) : Fclass_of_lot [.d (ti (x :: r))] M = if clsB x (clP x r).tail = true then .ok (.d (ti (clP x r))) M else .exc ⟨"Refused", [("reason", .str "large")]⟩ M := by
  have lb := clP_head x r
  have lbl : (clP x r).tail.length ≤ 90000 := by have := (gen_facts hG).1; rw [clP_len]; omega
  have g := gen_facts hG
  have s := gen_sm hG
  have hlen := stepsL_len x r
  have ig : ∀ M, Fis_generators [.d (ti (x :: r))] M = .ok (.d (.bl true)) M := fun M => by rw [isgen_ok (by omega), hG]
  have bg : ∀ M, Fbroken_generator [.d (ti (x :: r))] M = .ok (.d .non) M := fun M => by rw [brkgen_ok hG]; unfold brkV; rw [hb]
  have st : ∀ M, Fsteps_of [.d (ti (x :: r))] M = .ok (.fr ((stepsL x r).map .int)) M := fun M => steps_ok s.1 s.2 (by omega)
  have ic : ∀ M, Fis_class [.d (ti (clP x r))] M = .ok (.d (.bl (clsB x (clP x r).tail))) M := fun M => by
    have := isclass_ok (x := x) (r := (clP x r).tail) (M := M) lbl
    rw [← lb] at this
    exact this
  unfold Fclass_of_lot
  refine e_fn rfl ?_
  unfold Tclass_of_lot
  cases r with
  | nil =>
    have h1 : x = 1 := (gen_facts hG).2.2.2.1
    subst h1
    rw [if_pos (by decide)]
    repeat' (first | (wtm_at "mpA") | (with_reducible apply e_call (ig _)) | (with_reducible apply e_call (bg _)) | (wtm_at "mp1"))
  | cons v vs =>
    have hlc : ((x :: v :: vs).map D.int).length ≤ 1000000 := by rw [List.length_map]; have := g.1; simp at this ⊢; omega
    have hn1 : ¬ (((x :: v :: vs).map D.int).length : Int) = 1 := by rw [List.length_map, List.length_cons, List.length_cons]; omega
    have i0 : ∀ M, idx (.d (ti (x :: v :: vs))) (.d (.int 1)) M = .ok (.d (.int v)) M := fun M => idx_tiI (by omega) (by simp; omega)
    repeat' (first | (wtm_at "mpA") | (with_reducible apply e_call (ig _)) | (with_reducible apply e_call (bg _)) | (with_reducible apply e_call (st _)) | (with_reducible apply p_idx idx_head) | (with_reducible apply p_idx (i0 _)) | (wtm_at "mp1"))
    have e1 : (((x :: v :: vs).map D.int).length - 1 - 1 : Int).toNat = vs.length := by simp
    dsimp only
    rw [e1]
    have hLl : (clP x (v :: vs)).length = vs.length + 2 := by show (clW x v v vs).length + 1 + 1 = _; rw [clW_len]
    refine e_rng (fun k env M' => M' = M ++ [some (.l (((clP x (v :: vs)).take (k + 2)).map .int))] ∧ ∃ o1, env = [some (.d (ti (x :: v :: vs))), o1, some (.d (.lst ((stepsL x (v :: vs)).map .int))), some (.cell M.length)]) ⟨rfl, _, rfl⟩ (fun k hk env M' h => ?_) (fun env M' h => ?_)
    · obtain ⟨rfl, o1, rfl⟩ := h
      have a1 : ((1 : Int) + k).toNat = k + 1 := by omega
      have a2 : ((1 : Int) + k - 1).toNat = k := by omega
      have a3 : ((1 : Int) + k + 1).toNat = k + 2 := by omega
      have hm := cls_mul (x := x) (r := v :: vs) (by omega) (fun b hb => by have := g.2.2.1 b hb; omega) (k := k) (by rw [List.length_cons]; omega)
      have i1 : ∀ M, idx (.d (.lst ((stepsL x (v :: vs)).map .int))) (.d (.int (1 + k - 1))) M = .ok (.d (.int ((stepsL x (v :: vs)).getD k 0))) M := fun M => by rw [idx_li (by omega) (by rw [hlen, List.length_cons]; omega), a2]
      have i2 : ∀ M, idx (.d (.lst ((stepsL x (v :: vs)).map .int))) (.d (.int (1 + k))) M = .ok (.d (.int ((stepsL x (v :: vs)).getD (k + 1) 0))) M := fun M => by rw [idx_li (by omega) (by rw [hlen, List.length_cons]; omega), a1]
      have i3 : ∀ M, idx (.d (ti (x :: v :: vs))) (.d (.int (1 + k + 1))) M = .ok (.d (.int ((x :: v :: vs).getD (k + 2) 0))) M := fun M => by rw [idx_tiI (by omega) (by simp; omega), a3]
      have i4 : ∀ M, idx (.d (ti (x :: v :: vs))) (.d (.int (1 + k))) M = .ok (.d (.int ((x :: v :: vs).getD (k + 1) 0))) M := fun M => by rw [idx_tiI (by omega) (by simp; omega), a1]
      have i5 : idx (.cell M.length) (.d (.int (1 + k))) (M ++ [some (.l (((clP x (v :: vs)).take (k + 2)).map .int))]) = .ok (.d (.int ((clP x (v :: vs)).getD (k + 1) 0))) (M ++ [some (.l (((clP x (v :: vs)).take (k + 2)).map .int))]) :=
        idx_cell last_get (atI_int (by omega) (by rw [List.getElem?_map, a1, List.getElem?_take_of_lt (by omega), List.getD_eq_getElem?_getD, List.getElem?_eq_getElem (by omega)]; rfl))
      have hg2 : (clP x (v :: vs)).getD (k + 2) 0 = (clP x (v :: vs)).getD (k + 1) 0 + (x :: v :: vs).getD (k + 2) 0 - (stepsL x (v :: vs)).getD k 0 / (stepsL x (v :: vs)).getD (k + 1) 0 * (x :: v :: vs).getD (k + 1) 0 := clW_get vs x v v k hk
      have ht := take_next (L := clP x (v :: vs)) (k := k + 2) (by omega) hg2
      have hll : (((clP x (v :: vs)).take (k + 2)).map D.int).length < 1000000 := by rw [List.length_map, List.length_take]; have := g.1; rw [List.length_cons] at this; omega
      refine ⟨_, _, _, rfl, el_start ?_, ⟨by rw [show k + 1 + 2 = k + 2 + 1 by omega, ht, List.map_append], some (.d (.int (1 + k))), rfl⟩⟩
      clear hg2 ht e1 hn1 st ic ig bg
      generalize (stepsL x (v :: vs)).getD k 0 = E0 at *
      generalize (stepsL x (v :: vs)).getD (k + 1) 0 = E1 at *
      repeat' (first | (wtm_at "mpA") | (with_reducible apply p_idx (i1 _)) | (with_reducible apply p_idx (i2 _)) | (with_reducible apply p_idx (i3 _)) | (with_reducible apply p_idx (i4 _)) | (with_reducible apply p_idx i5) | (with_reducible refine p_div hm.1.1 (div_i (by omega) (by omega)) ?_) | (with_reducible refine p_mul (bits_small (by omega) (by omega) _) ?_) | (with_reducible refine m_appL hll ?_) | (wtm_at "mp1"))
      rfl
    · obtain ⟨rfl, o1, rfl⟩ := h
      rw [List.take_of_length_le (by omega)]
      cases hc : clsB x (clP x (v :: vs)).tail with
      | true =>
        rw [hc] at ic
        rw [if_pos rfl]
        repeat' (first | (wtm_at "mpA") | (with_reducible apply e_call tup_cell) | (with_reducible apply e_call (ic _)) | (wtm_at "mp1"))
        exact r_dL
      | false =>
        rw [hc] at ic
        rw [if_neg (by decide)]
        repeat' (first | (wtm_at "mpA") | (with_reducible apply e_call tup_cell) | (with_reducible apply e_call (ic _)) | (wtm_at "mp1"))
        simp
theorem lcof_ok {x : Int} {r : List Int} {M : Mem} (hG : GenB x r = true) : F_law_class_of [.d (ti (x :: r))] M = .ok (.d (ti (clP x r))) M := by
  have g := gen_facts hG
  have s := gen_sm hG
  have hl : r.length ≤ 100 := by omega
  have hlc : ((x :: r).map D.int).length ≤ 1000000 := by simp; omega
  unfold F_law_class_of
  refine e_fn rfl ?_
  unfold T_law_class_of
  cases r with
  | nil =>
    have h1 : x = 1 := g.2.2.2.1
    subst h1
    repeat' (first | (wtm_at "mpA") | (with_reducible refine e_call (lsteps_ok s.1 s.2 (by omega)) ?_) | (with_reducible apply e_call lst_tup) | (with_reducible apply e_call tup_cell) | (wtm_at "mp1"))
    have e1 : (((([1] : List Int).map D.int).length : Nat) - 1 - 1 : Int).toNat = 0 := by decide
    dsimp only
    rw [e1]
    refine f_nil rfl ?_
    repeat' (first | (wtm_at "mpA") | (with_reducible apply e_call tup_cell) | (wtm_at "mp1"))
    exact r_dL
  | cons c cs =>
    have cq : ∀ M, cutop (.d (ti (x :: c :: cs))) none (some 2) M = .ok (.d (ti [x, c])) M := fun M => by
      show Out.ok (AV.d (.tup (cutG ((x :: c :: cs).map D.int) none (some 2)))) M = _
      rw [cutG_map, show (2 : Int) = ((2 : Nat) : Int) from rfl, cutG_0n]
      rfl
    repeat' (first | (wtm_at "mpA") | (with_reducible refine e_call (lsteps_ok s.1 s.2 (by omega)) ?_) | (with_reducible apply p_cut (cq _)) | (with_reducible apply e_call lst_tup) | (wtm_at "mp1"))
    have e1 : (((x :: c :: cs).map D.int).length - 1 - 1 : Int).toNat = cs.length := by simp
    dsimp only
    rw [e1]
    have hLl : (clP x (c :: cs)).length = cs.length + 2 := by show (clW x c c cs).length + 1 + 1 = _; rw [clW_len]
    have hlen := stepsL_len x (c :: cs)
    refine e_rng (fun k env M' => M' = M ++ [some (.l (((clP x (c :: cs)).take (k + 2)).map .int))] ∧ ∃ o1, env = [some (.d (ti (x :: c :: cs))), o1, some (.d (.lst ((stepsL x (c :: cs)).map .int))), some (.cell M.length)]) ⟨rfl, _, rfl⟩ (fun k hk env M' h => ?_) (fun env M' h => ?_)
    · obtain ⟨rfl, o1, rfl⟩ := h
      have a1 : ((1 : Int) + k).toNat = k + 1 := by omega
      have a2 : ((1 : Int) + k - 1).toNat = k := by omega
      have a3 : ((1 : Int) + k + 1).toNat = k + 2 := by omega
      have hm := cls_mul (x := x) (r := c :: cs) (by omega) (fun b hb => by have := g.2.2.1 b hb; omega) (k := k) (by rw [List.length_cons]; omega)
      have i1 : ∀ M, idx (.d (.lst ((stepsL x (c :: cs)).map .int))) (.d (.int (1 + k - 1))) M = .ok (.d (.int ((stepsL x (c :: cs)).getD k 0))) M := fun M => by rw [idx_li (by omega) (by rw [hlen, List.length_cons]; omega), a2]
      have i2 : ∀ M, idx (.d (.lst ((stepsL x (c :: cs)).map .int))) (.d (.int (1 + k))) M = .ok (.d (.int ((stepsL x (c :: cs)).getD (k + 1) 0))) M := fun M => by rw [idx_li (by omega) (by rw [hlen, List.length_cons]; omega), a1]
      have i3 : ∀ M, idx (.d (ti (x :: c :: cs))) (.d (.int (1 + k + 1))) M = .ok (.d (.int ((x :: c :: cs).getD (k + 2) 0))) M := fun M => by rw [idx_tiI (by omega) (by simp; omega), a3]
      have i4 : ∀ M, idx (.d (ti (x :: c :: cs))) (.d (.int (1 + k))) M = .ok (.d (.int ((x :: c :: cs).getD (k + 1) 0))) M := fun M => by rw [idx_tiI (by omega) (by simp; omega), a1]
      have htp := take_next (L := clP x (c :: cs)) (k := k + 1) (by omega) rfl
      have i5 : idx (.cell M.length) (.d (.int (-1))) (M ++ [some (.l (((clP x (c :: cs)).take (k + 2)).map .int))]) = .ok (.d (.int ((clP x (c :: cs)).getD (k + 1) 0))) (M ++ [some (.l (((clP x (c :: cs)).take (k + 2)).map .int))]) := by
        rw [show k + 2 = k + 1 + 1 by omega, htp]
        exact idx_lastC
      have hg : (clP x (c :: cs)).getD (k + 2) 0 = (clP x (c :: cs)).getD (k + 1) 0 + (x :: c :: cs).getD (k + 2) 0 - (stepsL x (c :: cs)).getD k 0 / (stepsL x (c :: cs)).getD (k + 1) 0 * (x :: c :: cs).getD (k + 1) 0 := clW_get cs x c c k hk
      have hg2 : (clP x (c :: cs)).getD (k + 2) 0 = (x :: c :: cs).getD (k + 2) 0 - (stepsL x (c :: cs)).getD k 0 / (stepsL x (c :: cs)).getD (k + 1) 0 * (x :: c :: cs).getD (k + 1) 0 + (clP x (c :: cs)).getD (k + 1) 0 := by omega
      have ht := take_next (L := clP x (c :: cs)) (k := k + 2) (by omega) hg2
      have hll : (((clP x (c :: cs)).take (k + 2)).map D.int).length < 1000000 := by rw [List.length_map, List.length_take]; rw [List.length_cons] at hl; omega
      refine ⟨_, _, _, rfl, el_start ?_, ⟨by rw [show k + 1 + 2 = k + 2 + 1 by omega, ht, List.map_append], some (.d (.int (1 + k))), rfl⟩⟩
      clear hg hg2 ht e1 hlc htp
      generalize (stepsL x (c :: cs)).getD k 0 = E0 at *
      generalize (stepsL x (c :: cs)).getD (k + 1) 0 = E1 at *
      repeat' (first | (wtm_at "mpA") | (with_reducible apply p_idx (i1 _)) | (with_reducible apply p_idx (i2 _)) | (with_reducible apply p_idx (i3 _)) | (with_reducible apply p_idx (i4 _)) | (with_reducible apply p_idx i5) | (with_reducible refine p_div hm.1.1 (div_i (by omega) (by omega)) ?_) | (with_reducible refine p_mul (bits_small (by omega) (by omega) _) ?_) | (with_reducible refine m_appL hll ?_) | (wtm_at "mp1"))
      rfl
    · obtain ⟨rfl, o1, rfl⟩ := h
      rw [List.take_of_length_le (by omega)]
      repeat' (first | (wtm_at "mpA") | (with_reducible apply e_call tup_cell) | (wtm_at "mp1"))
      exact r_dL
theorem lbrk_ok {x : Int} {r : List Int} {M : Mem} (h : GenB x r = true) : F_law_broken [.d (ti (x :: r))] M = .ok (.d (brkV x r)) M := by
  have g := gen_facts h
  have s := gen_sm h
  have hlen := stepsL_len x r
  have hlc : ((x :: r).map D.int).length ≤ 1000000 := by simp; omega
  have st : ∀ M, F_law_steps [.d (ti (x :: r))] M = .ok (.fr ((stepsL x r).map .int)) M := fun M => lsteps_ok s.1 s.2 (by omega)
  unfold F_law_broken
  refine e_fn rfl ?_
  unfold T_law_broken
  repeat' (first | (wtm_at "mpA") | (with_reducible apply e_call (st _)) | (wtm_at "mp1"))
  have e1 : (((x :: r).map D.int).length - 1 : Int).toNat = r.length := by simp
  dsimp only
  rw [e1]
  refine e_find (fun env => ∃ o2, env = [some (.d (ti (x :: r))), some (.d (.lst ((stepsL x r).map .int))), o2]) (brkD x r) ⟨_, rfl⟩ (fun d hd env he => ?_) (fun d hd => ?_) (fun hd env' he => ?_)
  · obtain ⟨k, hk, rfl⟩ := rngL_mem hd
    obtain ⟨o2, rfl⟩ := he
    have a1 : ((1 : Int) + k).toNat = k + 1 := by omega
    have a2 : ((1 : Int) + k - 1).toNat = k := by omega
    have i1 : ∀ M, idx (.d (.lst ((stepsL x r).map .int))) (.d (.int (1 + k - 1))) M = .ok (.d (.int ((stepsL x r).getD k 0))) M := fun M => by rw [idx_li (by omega) (by rw [hlen]; omega), a2]
    have i2 : ∀ M, idx (.d (.lst ((stepsL x r).map .int))) (.d (.int (1 + k))) M = .ok (.d (.int ((stepsL x r).getD (k + 1) 0))) M := fun M => by rw [idx_li (by omega) (by rw [hlen]; omega), a1]
    have i4 : ∀ M, idx (.d (ti (x :: r))) (.d (.int (1 + k))) M = .ok (.d (.int ((x :: r).getD (k + 1) 0))) M := fun M => by rw [idx_tiI (by omega) (by simp; omega), a1]
    have i5 : ∀ M, idx (.d (ti (x :: r))) (.d (.int (1 + k - 1))) M = .ok (.d (.int ((x :: r).getD k 0))) M := fun M => by rw [idx_tiI (by omega) (by simp; omega), a2]
    have eb : brkD x r (.int (1 + k)) = (decide ((stepsL x r).getD (k + 1) 0 = (stepsL x r).getD k 0) || (decide (1 < 1 + k) && decide ((x :: r).getD (k + 1) 0 ≤ (stepsL x r).getD (k - 1) 0 / (stepsL x r).getD k 0 * (x :: r).getD k 0))) := by
      rw [← brk_lo (by omega) (fun b hb => by have := g.2.2.1 b hb; omega) hk]
      show brkB (x :: r) (stepsL x r) ((1 : Int) + k).toNat = _
      rw [a1, show k + 1 = 1 + k by omega]
    rw [eb]
    refine ⟨_, rfl, ?_⟩
    by_cases he : (stepsL x r).getD (k + 1) 0 = (stepsL x r).getD k 0
    · rw [decide_eq_true he, Bool.true_or]
      refine ⟨fun _ => el_start ?_, fun hf => (nomatch hf)⟩
      repeat' (first | (wtm_at "mpA") | (with_reducible apply p_idx (i1 _)) | (with_reducible apply p_idx (i2 _)) | (wtm_at "mp1"))
      rfl
    · rw [decide_eq_false he, Bool.false_or]
      by_cases hk0 : k = 0
      · subst hk0
        refine ⟨fun hf => (nomatch hf), fun _ => ⟨[some (.d (ti (x :: r))), some (.d (.lst ((stepsL x r).map .int))), some (.d (.int (1 + ((0 : Nat) : Int))))], el_start ?_, _, rfl⟩⟩
        repeat' (first | (wtm_at "mpA") | (with_reducible apply p_idx (i1 _)) | (with_reducible apply p_idx (i2 _)) | (wtm_at "mp1"))
        rfl
      · obtain ⟨j, rfl⟩ : ∃ j, k = j + 1 := ⟨k - 1, by omega⟩
        have hj : ((1 : Int) + ((j + 1 : Nat) : Int) - 2).toNat = j := by omega
        have i6 : ∀ M, idx (.d (.lst ((stepsL x r).map .int))) (.d (.int (1 + ((j + 1 : Nat) : Int) - 2))) M = .ok (.d (.int ((stepsL x r).getD j 0))) M := fun M => by rw [idx_li (by omega) (by rw [hlen]; omega), hj]
        have hm := cls_mul (x := x) (r := r) (by omega) (fun b hb => by have := g.2.2.1 b hb; omega) (k := j) (by omega)
        have l1 : (1 : Int) < 1 + ((j + 1 : Nat) : Int) := by omega
        rw [decide_eq_true (show 1 < 1 + (j + 1) by omega), Bool.true_and, show j + 1 - 1 = j from rfl]
        by_cases hb : (x :: r).getD (j + 1 + 1) 0 ≤ (stepsL x r).getD j 0 / (stepsL x r).getD (j + 1) 0 * (x :: r).getD (j + 1) 0
        · rw [decide_eq_true hb]
          refine ⟨fun _ => el_start ?_, fun hf => (nomatch hf)⟩
          repeat' (first | (wtm_at "mpA") | (with_reducible apply p_idx (i1 _)) | (with_reducible apply p_idx (i2 _)) | (with_reducible apply p_idx (i4 _)) | (with_reducible apply p_idx (i5 _)) | (with_reducible apply p_idx (i6 _)) | (with_reducible refine p_div hm.1.1 (div_i (by omega) (by omega)) ?_) | (with_reducible refine p_mul (bits_small (by omega) (by omega) _) ?_) | (wtm_at "mp1"))
          rfl
        · rw [decide_eq_false hb]
          refine ⟨fun hf => (nomatch hf), fun _ => ⟨[some (.d (ti (x :: r))), some (.d (.lst ((stepsL x r).map .int))), some (.d (.int (1 + ((j + 1 : Nat) : Int))))], el_start ?_, _, rfl⟩⟩
          repeat' (first | (wtm_at "mpA") | (with_reducible apply p_idx (i1 _)) | (with_reducible apply p_idx (i2 _)) | (with_reducible apply p_idx (i4 _)) | (with_reducible apply p_idx (i5 _)) | (with_reducible apply p_idx (i6 _)) | (with_reducible refine p_div hm.1.1 (div_i (by omega) (by omega)) ?_) | (with_reducible refine p_mul (bits_small (by omega) (by omega) _) ?_) | (wtm_at "mp1"))
          rfl
  · rw [brk_find] at hd
    unfold brkV
    cases hL : brkL x r with
    | nil => rw [hL] at hd; cases hd
    | cons k l =>
      rw [hL] at hd
      cases hd
      repeat' (first | (wtm_at "mpA") | (wtm_at "mp1"))
  · rw [brk_find] at hd
    obtain ⟨o2, rfl⟩ := he
    unfold brkV
    cases hL : brkL x r with
    | nil => repeat' (first | (wtm_at "mpA") | (wtm_at "mp1"))
    | cons k l => rw [hL] at hd; cases hd

def inM (m : Int) : Bool := decide (1 ≤ m ∧ m ≤ 1000)
theorem inM_if (m : Int) : (1 ≤ m → inM m = decide (m ≤ 1000)) ∧ (¬ 1 ≤ m → inM m = false) := by
  unfold inM
  constructor
  · intro h; simp [h]
  · intro h; simp [h]
theorem genB_all {x : Int} {r : List Int} (h : (x :: r).all inM = false) : GenB x r = false := by
  cases hB : GenB x r with
  | false => rfl
  | true =>
    have g := gen_facts hB
    have f := asc_facts g.2.2.2.2.2
    rw [List.all_eq_false] at h
    obtain ⟨m, hm, h2⟩ := h
    exfalso
    apply h2
    unfold inM
    rw [decide_eq_true_eq]
    rcases List.mem_cons.mp hm with rfl | hm
    · omega
    · have := f.1 m hm; omega
theorem genB_if {x : Int} {r : List Int} (h : (x :: r).all inM = true) (hl : r.length ≤ 11) : GenB x r = (ascZ (x :: r) && decide (lastI (stepsL x r) = 1)) := by
  rw [List.all_eq_true] at h
  have hx := of_decide_eq_true (h x List.mem_cons_self)
  have hla : lastI (x :: r) ≤ 1000 := by
    have : lastI (x :: r) ∈ x :: r := by
      unfold lastI
      cases e : (x :: r).getLast? with
      | none => simp at e
      | some y => exact List.mem_of_getLast? e
    exact (of_decide_eq_true (h _ this)).2
  unfold GenB
  rw [decide_eq_true hla, decide_eq_true hl, decide_eq_true hx.1]
  simp
theorem lisrow_ok {x : Int} {r : List Int} {M : Mem} (hl : r.length ≤ 90000) : F_law_is_row [.d (ti (x :: r))] M = .ok (.d (.bl (GenB x r))) M := by
  unfold F_law_is_row
  refine e_fn rfl ?_
  unfold T_law_is_row
  have hll : ((x :: r).map D.int).length ≤ 1000000 := by rw [List.length_map, List.length_cons]; omega
  have hlen : ((((x :: r).map D.int).length : Nat) : Int) = r.length + 1 := by simp
  by_cases h1 : r.length ≤ 11
  · have n1 : (1 : Int) ≤ (((x :: r).map D.int).length : Nat) := by rw [hlen]; omega
    have n2 : ((((x :: r).map D.int).length : Nat) : Int) ≤ 12 := by rw [hlen]; omega
    repeat' (first | (wtm_at "mpA") | (wtm_at "mp0"))
    refine e_compE (fun d => match d with | .int m => D.bl (inM m) | d => d) (fun _ => true) (fun d hd => ?_) hll ?_
    · obtain ⟨m, _, rfl⟩ := List.mem_map.mp hd
      refine ⟨_, rfl, rfl, fun _ => ⟨.d (.bl (inM m)), el_start ?_, rfl⟩⟩
      by_cases hm : 1 ≤ m
      · rw [(inM_if m).1 hm]
        repeat' (first | (wtm_at "mpA") | (with_reducible refine e_call whole ?_) | (wtm_at "mp1"))
        rfl
      · rw [(inM_if m).2 hm]
        repeat' (first | (wtm_at "mpA") | (with_reducible refine e_call whole ?_) | (wtm_at "mp1"))
        rfl
    · have e : (((x :: r).map D.int).filter fun _ => true).map (fun d => match d with | .int m => D.bl (inM m) | d => d) = ((x :: r).map inM).map D.bl := by
        rw [List.filter_eq_self.mpr (fun _ _ => rfl)]
        simp only [List.map_map]
        rfl
      rw [e]
      have an : ∀ M, allOp [.d (.lst (((x :: r).map inM).map D.bl))] M = .ok (.d (.bl ((x :: r).all inM))) M := fun M => by rw [all_bls, List.all_map]; rfl
      clear e
      cases hA : (x :: r).all inM with
      | false =>
        rw [hA] at an
        rw [genB_all hA]
        repeat' (first | (wtm_at "mpA") | (with_reducible apply e_call (an _)) | (wtm_at "mp1"))
      | true =>
        rw [hA] at an
        rw [genB_if hA h1]
        repeat' (first | (wtm_at "mpA") | (with_reducible apply e_call (an _)) | (wtm_at "mp1"))
        have en : (((x :: r).map D.int).length - 1 : Int).toNat = r.length := by simp
        dsimp only
        rw [en]
        refine cnt_comp (badB (fun a b => decide (a ≤ b)) (x :: r)) (by omega) (fun j hj => ⟨_, rfl, el_start ?_, el_start ?_⟩) ?_
        · have i1 : idx (.d (ti (x :: r))) (.d (.int (1 + j))) M = _ := idx_tiI (by omega) (by simp; omega)
          have i2 : idx (.d (ti (x :: r))) (.d (.int (1 + j - 1))) M = _ := idx_tiI (by omega) (by simp; omega)
          repeat' (first | (wtm_at "mpA") | (with_reducible apply p_idx i1) | (with_reducible apply p_idx i2) | (wtm_at "mp1"))
          rfl
        · repeat' (first | (wtm_at "mpA") | (wtm_at "mp1"))
          rfl
        have hb := bad_cnt (fun a b => decide (a ≤ b)) (fun p => decide (p.1 < p.2)) lt_nle x r
        have ea : (List.zip (x :: r) r).all (fun p => decide (p.1 < p.2)) = ascZ (x :: r) := rfl
        rw [ea] at hb
        have hz : decide (((((rngL 1 r.length).filter (badB (fun a b => decide (a ≤ b)) (x :: r))).map id).length : Nat) = (0 : Int)) = ascZ (x :: r) := by
          cases hs : ascZ (x :: r) with
          | true =>
            rw [hs] at hb
            have := of_decide_eq_false hb
            exact decide_eq_true (by omega)
          | false =>
            rw [hs] at hb
            have := of_decide_eq_true hb
            exact decide_eq_false (by omega)
        have hx := of_decide_eq_true ((List.all_eq_true.mp hA) x List.mem_cons_self)
        have hr : ∀ b ∈ r, Small b := fun b hb => by
          have := of_decide_eq_true ((List.all_eq_true.mp hA) b (.tail _ hb))
          exact ⟨by omega, by omega⟩
        have hne : stepsL x r ≠ [] := by
          intro z
          have := stepsL_len x r
          rw [z] at this
          cases this
        have i1 : idx (.fr ((stepsL x r).map .int)) (.d (.int (-1))) M = .ok (.d (.int (lastI (stepsL x r)))) M := idx_fr (atI_last hne)
        have st : ∀ M, F_law_steps [.d (ti (x :: r))] M = .ok (.fr ((stepsL x r).map .int)) M := fun M => lsteps_ok (show Small x from ⟨by omega, by omega⟩) hr (by omega)
        have hcl : ((((rngL 1 r.length).filter (badB (fun a b => decide (a ≤ b)) (x :: r))).map id).length) ≤ 1000000 := by
          rw [List.length_map]
          refine Nat.le_trans (List.length_filter_le ..) ?_
          unfold rngL
          rw [List.length_map, List.length_range]
          omega
        clear hb ea
        generalize (((rngL 1 r.length).filter (badB (fun a b => decide (a ≤ b)) (x :: r))).map id) = B at *
        cases hs : ascZ (x :: r) with
        | true =>
          rw [hs] at hz
          have hz1 := of_decide_eq_true hz
          rw [Bool.true_and]
          repeat' (first | (wtm_at "mpA") | (with_reducible apply e_call (st _)) | (with_reducible apply p_idx i1) | (wtm_at "mp1"))
        | false =>
          rw [hs] at hz
          have hz1 := of_decide_eq_false hz
          rw [Bool.false_and]
          repeat' (first | (wtm_at "mpA") | (with_reducible apply e_call (st _)) | (with_reducible apply p_idx i1) | (wtm_at "mp1"))
  · have n1 : (1 : Int) ≤ (((x :: r).map D.int).length : Nat) := by rw [hlen]; omega
    have n2 : ¬ ((((x :: r).map D.int).length : Nat) : Int) ≤ 12 := by rw [hlen]; omega
    have hc : GenB x r = false := by unfold GenB; rw [decide_eq_false h1]; simp
    rw [hc]
    repeat' (first | (wtm_at "mpA") | (wtm_at "mp1"))
theorem loc_ok {x : Int} {r : List Int} {M : Mem} (h : clsB x r = true) (hl : r.length ≤ 10) : Flot_of_class [.d (ti (x :: r))] M = .ok (.d (ti (lotP x r))) M := by
  have h1 : Fis_class [.d (ti (x :: r))] M = .ok (.d (.bl true)) M := by rw [isclass_ok (by omega), h]
  unfold Flot_of_class
  refine e_fn rfl ?_
  unfold Tlot_of_class
  repeat' (first | (wtm_at "mpA") | (with_reducible apply e_call (chk_ok h1)) | (with_reducible apply e_call (lot_ok h (by omega))) | (with_reducible apply e_call tup_lst) | (wtm_at "mp1"))
theorem loc_no {v : D} {M : Mem} (h : Fis_class [.d v] M = .ok (.d (.bl false)) M) : Flot_of_class [.d v] M = .exc ⟨"Malformed", []⟩ M := by
  unfold Flot_of_class
  refine e_fn rfl ?_
  unfold Tlot_of_class
  repeat' (first | (wtm_at "mpA") | (with_reducible refine e_callX (chk_no h) ?_) | (wtm_at "mp1"))
theorem bro_no {v : D} {M : Mem} (h : Fis_generators [.d v] M = .ok (.d (.bl false)) M) : Fbroken_generator [.d v] M = .exc ⟨"Malformed", []⟩ M := by
  unfold Fbroken_generator
  refine e_fn rfl ?_
  unfold Tbroken_generator
  repeat' (first | (wtm_at "mpA") | (with_reducible apply e_call h) | (wtm_at "mp1"))
theorem col_no {v : D} {M : Mem} (h : Fis_generators [.d v] M = .ok (.d (.bl false)) M) : Fclass_of_lot [.d v] M = .exc ⟨"Malformed", []⟩ M := by
  unfold Fclass_of_lot
  refine e_fn rfl ?_
  unfold Tclass_of_lot
  repeat' (first | (wtm_at "mpA") | (with_reducible apply e_call h) | (wtm_at "mp1"))
theorem col_brk {x : Int} {r : List Int} {M : Mem} (h : GenB x r = true) {k : Nat} {l : List Nat} (hb : brkL x r = k :: l) : Fclass_of_lot [.d (ti (x :: r))] M = .exc ⟨"Refused", [("reason", .str "branch")]⟩ M := by
  have ig : ∀ M, Fis_generators [.d (ti (x :: r))] M = .ok (.d (.bl true)) M := fun M => by rw [isgen_ok (by have := (gen_facts h).1; omega), h]
  have bg : ∀ M, Fbroken_generator [.d (ti (x :: r))] M = .ok (.d (.int (1 + k))) M := fun M => by rw [brkgen_ok h]; unfold brkV; rw [hb]
  unfold Fclass_of_lot
  refine e_fn rfl ?_
  unfold Tclass_of_lot
  repeat' (first | (wtm_at "mpA") | (with_reducible apply e_call (ig _)) | (with_reducible apply e_call (bg _)) | (wtm_at "mp1"))
theorem told0 {v w : D} {M : Mem} (h : Flot_of_class [.d v] M = .ok (.d w) M) (ho : F_law_odd 8 [.d w] M = .ok (.d (.bl false)) M) : F_law_told [.d (.int 0), .d v] M = .ok (.d (.tup [.str "told", w])) M := by
  unfold F_law_told
  refine e_fn rfl ?_
  unfold T_law_told
  repeat' (first | (wtm_at "mpA") | (with_reducible apply e_call h) | (with_reducible apply e_call (hon ho)) | (wtm_at "mp1"))
theorem told0M {v : D} {M : Mem} (h : Flot_of_class [.d v] M = .exc ⟨"Malformed", []⟩ M) : F_law_told [.d (.int 0), .d v] M = .ok (.d (.tup [.str "malformed", .non])) M := by
  unfold F_law_told
  refine e_fn rfl ?_
  unfold T_law_told
  repeat' (first | (wtm_at "mpA") | (with_reducible refine e_callX h ?_) | (with_reducible apply h_some hd_mal) | (wtm_at "mp1"))
theorem told1 {v w : D} {M : Mem} (h : Fbroken_generator [.d v] M = .ok (.d w) M) (ho : F_law_odd 8 [.d w] M = .ok (.d (.bl false)) M) : F_law_told [.d (.int 1), .d v] M = .ok (.d (.tup [.str "told", w])) M := by
  unfold F_law_told
  refine e_fn rfl ?_
  unfold T_law_told
  repeat' (first | (wtm_at "mpA") | (with_reducible apply e_call h) | (with_reducible apply e_call (hon ho)) | (wtm_at "mp1"))
theorem told1M {v : D} {M : Mem} (h : Fbroken_generator [.d v] M = .exc ⟨"Malformed", []⟩ M) : F_law_told [.d (.int 1), .d v] M = .ok (.d (.tup [.str "malformed", .non])) M := by
  unfold F_law_told
  refine e_fn rfl ?_
  unfold T_law_told
  repeat' (first | (wtm_at "mpA") | (with_reducible refine e_callX h ?_) | (with_reducible apply h_some hd_mal) | (wtm_at "mp1"))
theorem told2 {v w : D} {M : Mem} (h : Fclass_of_lot [.d v] M = .ok (.d w) M) (ho : F_law_odd 8 [.d w] M = .ok (.d (.bl false)) M) : F_law_told [.d (.int 2), .d v] M = .ok (.d (.tup [.str "told", w])) M := by
  unfold F_law_told
  refine e_fn rfl ?_
  unfold T_law_told
  repeat' (first | (wtm_at "mpA") | (with_reducible apply e_call h) | (with_reducible apply e_call (hon ho)) | (wtm_at "mp1"))
theorem told2M {v : D} {M : Mem} (h : Fclass_of_lot [.d v] M = .exc ⟨"Malformed", []⟩ M) : F_law_told [.d (.int 2), .d v] M = .ok (.d (.tup [.str "malformed", .non])) M := by
  unfold F_law_told
  refine e_fn rfl ?_
  unfold T_law_told
  repeat' (first | (wtm_at "mpA") | (with_reducible refine e_callX h ?_) | (with_reducible apply h_some hd_mal) | (wtm_at "mp1"))
theorem told2R {v : D} {M : Mem} (h : Fclass_of_lot [.d v] M = .exc ⟨"Refused", [("reason", .str "large")]⟩ M) : F_law_told [.d (.int 2), .d v] M = .ok (.d (.tup [.str "refused", .str "large"])) M := by
  unfold F_law_told
  refine e_fn rfl ?_
  unfold T_law_told
  repeat' (first | (wtm_at "mpA") | (with_reducible refine e_callX h ?_) | (with_reducible apply h_some hd_large) | (wtm_at "mp1"))
theorem hd_branch : hdRun ctE ⟨"Refused", [("reason", .str "branch")]⟩ [("Malformed", (xTup2 (fun _ => some (.str "malformed")) (fun _ => some .non))), ("Refused", (xTup2 (fun _ => some (.str "refused")) (xFld "Refused" "reason")))] = some (some (.tup [.str "refused", .str "branch"])) := by decide +kernel
theorem told2B {v : D} {M : Mem} (h : Fclass_of_lot [.d v] M = .exc ⟨"Refused", [("reason", .str "branch")]⟩ M) : F_law_told [.d (.int 2), .d v] M = .ok (.d (.tup [.str "refused", .str "branch"])) M := by
  unfold F_law_told
  refine e_fn rfl ?_
  unfold T_law_told
  repeat' (first | (wtm_at "mpA") | (with_reducible refine e_callX h ?_) | (with_reducible apply h_some hd_branch) | (wtm_at "mp1"))

theorem range_rev (E : Nat) : (List.range E).reverse = (List.range E).map fun k => E - 1 - k := by
  apply List.ext_getElem
  · simp
  · intro i h1 h2
    simp at h1 h2 ⊢
/-- half of what lies in mirror -/
theorem half {E : Nat} {p : Nat → Bool} (h : ∀ k, k < E → p k = !p (E - 1 - k)) : ((List.range E).filter p).length * 2 = E := by
  have h1 : (List.range E).countP p = (List.range E).countP (fun k => !p k) := by
    have e1 : (List.range E).countP p = (List.range E).reverse.countP p := by rw [List.countP_reverse]
    rw [e1, range_rev, List.countP_map]
    apply List.countP_congr
    intro k hk
    have hk := List.mem_range.mp hk
    have := h (E - 1 - k) (by omega)
    rw [show E - 1 - (E - 1 - k) = k by omega] at this
    show p (E - 1 - k) = true ↔ (!p k) = true
    rw [this]
  have h2 := List.length_eq_countP_add_countP p (l := List.range E)
  rw [List.length_range] at h2
  have h3 : (List.range E).countP (fun k => !p k) = (List.range E).countP (fun a => decide (¬ p a = true)) := by
    apply List.countP_congr
    intro k _
    cases p k <;> simp
  rw [← List.countP_eq_length_filter]
  omega
theorem lotW_bd : ∀ (ds : List Int) (e v c X : Int), 0 < e → e ≤ X → 0 ≤ v → 0 ≤ c → c ≤ v → e * v ≤ X * c → ascZ (c :: ds) = true → ∀ w ∈ lotW e v c ds, v ≤ w ∧ c < w ∧ w ≤ X * lastI (c :: ds)
  | [], e, v, c, X, _, _, _, _, _, _, _, w, hw => by cases hw
  | d :: ds, e, v, c, X, he, hX, hv, hc, hcv, hb, ha, w, hw => by
    have hp := gcd_p (c := c) he
    have ha2 : (decide (c < d) && ascZ (d :: ds)) = true := ha
    rw [Bool.and_eq_true, decide_eq_true_eq] at ha2
    have hge : (Int.gcd e c : Int) ≤ e := Int.le_of_dvd he (Int.gcd_dvd_left ..)
    obtain ⟨n, hn, hen, hn1⟩ := q_div (v := c) he
    have hw0 : v ≤ e / Int.gcd e c * v := by
      rw [hn]
      have := Int.mul_le_mul_of_nonneg_right hn1 hv
      omega
    have e1 : (Int.gcd e c : Int) * (e / Int.gcd e c * v + d - c) = e * v + Int.gcd e c * (d - c) := by
      rw [hn]
      generalize (Int.gcd e c : Int) = g at *
      subst hen
      grind
    have e2 : (Int.gcd e c : Int) * (d - c) ≤ X * (d - c) := Int.mul_le_mul_of_nonneg_right (by omega) (by omega)
    have e3 : X * (d - c) = X * d - X * c := Int.mul_sub ..
    have hb2 : (Int.gcd e c : Int) * (e / Int.gcd e c * v + d - c) ≤ X * d := by omega
    have f := asc_facts ha2.2
    have hXl : X * d ≤ X * lastI (d :: ds) := Int.mul_le_mul_of_nonneg_left f.2 (by omega)
    have ih := lotW_bd ds (Int.gcd e c) (e / Int.gcd e c * v + d - c) d X hp (by omega) (by omega) (by omega) (by omega) hb2 ha2.2
    rw [lastI_cc]
    have hw' : w ∈ (e / Int.gcd e c * v + d - c) :: lotW (Int.gcd e c) (e / Int.gcd e c * v + d - c) d ds := hw
    rcases List.mem_cons.mp hw' with rfl | hw'
    · have h5 : 1 * (e / Int.gcd e c * v + d - c) ≤ (Int.gcd e c : Int) * (e / Int.gcd e c * v + d - c) := Int.mul_le_mul_of_nonneg_right (by omega) (by omega)
      rw [Int.one_mul] at h5
      exact ⟨by omega, by omega, by omega⟩
    · have := ih w hw'
      exact ⟨by omega, by omega, this.2.2⟩
theorem lot_bd {x : Int} {r : List Int} (h : clsB x r = true) : ∀ w ∈ lotP x r, 0 < w ∧ w ≤ 18000 := by
  cases r with
  | nil =>
    cases cls_one h
    intro w hw
    have : w = 1 := List.mem_singleton.mp hw
    omega
  | cons c cs =>
    obtain ⟨hx, hcw, c', cs', e, hxc⟩ := cls_cw (List.cons_ne_nil _ _) h
    cases e
    have h3 : ascZ (c :: cs) = true ∧ lastI (c :: cs) ≤ 300 := by
      unfold clsB at h
      simp only [Bool.or_eq_true, Bool.and_eq_true, decide_eq_true_eq] at h
      rcases h with h | ⟨_, h2, h3, _⟩
      · exact absurd (List.cons.inj h).2 (by simp)
      · have a1 : (decide (x < c) && ascZ (c :: cs)) = true := h3
        rw [Bool.and_eq_true] at a1
        rw [lastI_cc] at h2
        exact ⟨a1.2, h2⟩
    have f := asc_facts h3.1
    have hb := lotW_bd cs x c c x (by omega) (Int.le_refl _) (by omega) (by omega) (Int.le_refl _) (Int.le_refl _) h3.1
    intro w hw
    rcases List.mem_cons.mp hw with rfl | hw
    · omega
    · rcases List.mem_cons.mp hw with rfl | hw
      · omega
      · have h5 := hb w hw
        have h6 : x * lastI (c :: cs) ≤ 60 * lastI (c :: cs) := Int.mul_le_mul_of_nonneg_right (by omega) (by omega)
        omega
/-- what divides all numbers divides their sums -/
theorem ing_dvd {lot : List Int} {e : Int} (h : ∀ v ∈ lot, e ∣ v) {n : Int} (hn : InG lot n) : e ∣ n := by
  induction hn with
  | zero => exact ⟨0, by simp⟩
  | add v n hv _ ih => exact Int.dvd_add ih (h v hv)
/-- no generator is a sum of those ahead of it -/
theorem lotW_new : ∀ (ds : List Int) (e b v c : Int) (pre : List Int), 0 < e → Int.gcd e v = Int.gcd e c → CW e b (c :: ds) → (∀ u ∈ pre, e ∣ u) → ∀ d a t, v :: lotW e v c ds = d ++ a :: t → ¬ InG (pre ++ d) a
  | ds, e, b, v, c, pre, he, hg, h, hp, [], a, t, eq => by
    have : v = a := (List.cons.inj eq).1
    subst this
    intro hn
    rw [List.append_nil] at hn
    have h1 := ing_dvd hp hn
    have h2 : Int.gcd e v = e.natAbs := Int.gcd_eq_natAbs_left h1
    have h3 := h.2.1
    omega
  | [], e, b, v, c, pre, he, hg, h, hp, u :: d, a, t, eq => by
    have := (List.cons.inj eq).2
    have := congrArg List.length this
    simp [lotW] at this
  | w :: ds, e, b, v, c, pre, he, hg, h, hp, u :: d, a, t, eq => by
    have huv : v = u := (List.cons.inj eq).1
    subst huv
    have eq2 := (List.cons.inj eq).2
    have hpg := gcd_p (c := v) he
    have d1 : (Int.gcd e v : Int) ∣ e / Int.gcd e v * v := Int.dvd_mul_of_dvd_right (Int.gcd_dvd_right ..)
    have d2 : (Int.gcd e v : Int) ∣ c := by rw [hg]; exact Int.gcd_dvd_right ..
    have d3 : (Int.gcd e v : Int) ∣ e / Int.gcd e v * v + w - c - w := by
      rw [show e / Int.gcd e v * v + w - c - w = e / Int.gcd e v * v - c by omega]
      exact Int.dvd_sub d1 d2
    have h3 : CW (Int.gcd e v) c (w :: ds) := by rw [hg]; exact h.2.2
    have eL : lotW e v c (w :: ds) = (e / Int.gcd e v * v + w - c) :: lotW (Int.gcd e v) (e / Int.gcd e v * v + w - c) w ds := by
      show (e / Int.gcd e c * v + w - c) :: lotW (Int.gcd e c) (e / Int.gcd e c * v + w - c) w ds = _
      rw [hg]
    rw [eL] at eq2
    have := lotW_new ds (Int.gcd e v) c (e / Int.gcd e v * v + w - c) w (pre ++ [v]) hpg (gcd_eqm d3) h3 (fun u hu => by
      rcases List.mem_append.mp hu with hu | hu
      · exact Int.dvd_trans (Int.gcd_dvd_left ..) (hp u hu)
      · rw [List.mem_singleton.mp hu]; exact Int.gcd_dvd_right ..) d a t eq2
    rw [List.append_assoc] at this
    exact this
theorem lot_new {x : Int} {r : List Int} (h : clsB x r = true) : ∀ d a t, lotP x r = d ++ a :: t → ¬ InG d a := by
  have hx0 : ∀ a : Int, 0 < a → ¬ InG [] a := fun a ha hn => by
    obtain ⟨v, m, hv, _⟩ := ing_last hn (by omega)
    cases hv
  cases r with
  | nil =>
    cases cls_one h
    intro d a t eq
    cases d with
    | nil =>
      have : (1 : Int) = a := (List.cons.inj eq).1
      exact hx0 a (by omega)
    | cons u d =>
      have := congrArg List.length (List.cons.inj eq).2
      simp at this
  | cons c cs =>
    obtain ⟨hx, hcw, c', cs', e, hxc⟩ := cls_cw (List.cons_ne_nil _ _) h
    cases e
    intro d a t eq
    cases d with
    | nil =>
      have : x = a := (List.cons.inj eq).1
      exact hx0 a (by omega)
    | cons u d =>
      have hu : x = u := (List.cons.inj eq).1
      subst hu
      exact lotW_new cs x 0 c c [x] (by omega) rfl hcw (fun u hu => by rw [List.mem_singleton.mp hu]; exact ⟨1, by simp⟩) d a t (List.cons.inj eq).2

def S1 : SS :=
 (sAsg 1 true (sArgs F_law_state (sCons (sVar 0) sNil)))
def S2 : SS :=
 (sAsg 2 false (sArgs F_law_drawn_class (sCons (sVar 1) (sCons (sIdx (sLst (sCons (sCon (.int 12)) (sCons (sCon (.int 60)) sNil))) (sArgs F_law_take (sCons (sVar 1) (sCons (sCon (.int 2)) sNil)))) sNil))))
def S3 : SS :=
 (sAsg 3 false (sArgs F_law_lot (sCons (sVar 2) sNil)))
def S4 : SS :=
 (sIfS (sNotB (sB (sArgs (F_law_same 8) (sCons (sArgs F_law_told (sCons (sCon (.int 0)) (sCons (sVar 2) sNil))) (sCons (sTup (sCons (sCon (.str "told")) (sCons (sVar 3) sNil))) sNil)))))
 (sSeq2 (sRet (sCon (.bl false)))
 sSkip)
 sSkip)
def S5 : SS :=
 (sAsg 4 false (sArgs F_law_conductor (sCons (sVar 2) sNil)))
def S6 : SS :=
 (sIfS (sB (sCmp .LtE (sVar 4) (sCon (.int 900))))
 (sSeq2 (sAsgK 9 (sArgsK F_law_sums (sCons (sVar 3) (sCons (sBin .Add (sVar 4) (sIdx (sVar 3) (sCon (.int 0)))) sNil))))
 (sSeq2 (sIfS (sOrB (sAndB (sB (sCmp .Gt (sVar 4) (sCon (.int 0)))) (sB (sInD false (sBin .Sub (sVar 4) (sCon (.int 1))) (sVar 9)))) (sB (sCmp .NotEq (sBin .Mult (sArgs lenOp (sCons (sComp (sRng (sCons (sVar 4) sNil)) (.name 16) (sB (sInD false (sVar 16) (sVar 9))) (sVar 16) (([("k", 16)] : List (Str × Nat)).map (·.2))) sNil)) (sCon (.int 2))) (sVar 4))))
 (sSeq2 (sRet (sCon (.bl false)))
 sSkip)
 sSkip)
 (sSeq2 (sIfS (sNotB (sB (sArgs allOp (sCons (sComp (sRng (sCons (sIdx (sVar 3) (sCon (.int 0))) sNil)) (.name 16) sYes (sInD false (sBin .Add (sVar 4) (sVar 16)) (sVar 9)) (([("k", 16)] : List (Str × Nat)).map (·.2))) sNil))))
 (sSeq2 (sRet (sCon (.bl false)))
 sSkip)
 sSkip)
 (sSeq2 (sFor (sRng (sCons (sArgs lenOp (sCons (sVar 3) sNil)) sNil)) (.name 10)
 (sSeq2 (sIfS (sInK (sIdx (sVar 3) (sVar 10)) (sArgsK F_law_sums (sCons (sSlice (sVar 3) none (some (sVar 10))) (sCons (sIdx (sVar 3) (sVar 10)) sNil))))
 (sSeq2 (sRet (sCon (.bl false)))
 sSkip)
 sSkip)
 sSkip))
 sSkip))))
 sSkip)
def S7 : SS :=
 (sAsg 5 true (sLst (sCons (sVar 3) (sCons (sTup (sCons (sCon (.int 1)) sNil)) (sCons (sTup (sCons (sCon (.int 2)) (sCons (sCon (.int 3)) sNil))) (sCons (sTup (sCons (sCon (.int 4)) (sCons (sCon (.int 6)) (sCons (sCon (.int 13)) sNil)))) (sCons (sTup (sCons (sCon (.int 4)) (sCons (sCon (.int 6)) (sCons (sCon (.int 11)) sNil)))) (sCons (sTup (sCons (sCon (.int 4)) (sCons (sCon (.int 6)) (sCons (sCon (.int 12)) (sCons (sCon (.int 13)) sNil))))) (sCons (sTup (sCons (sCon (.int 3)) (sCons (sCon (.int 5)) (sCons (sCon (.int 7)) sNil)))) (sCons (sTup (sCons (sCon (.int 2)) (sCons (sCon (.int 1000)) sNil))) (sCons (sTup (sCons (sCon (.int 2)) (sCons (sCon (.int 999)) sNil))) (sCons (sTup (sCons (sCon (.int 1)) (sCons (sCon (.int 2)) sNil))) (sCons (sTup (sCons (sCon (.int 61)) (sCons (sCon (.int 62)) sNil))) (sCons (sTup (sCons (sCon (.int 59)) (sCons (sCon (.int 61)) sNil))) (sCons (sTup (sCons (sCon (.int 1000)) sNil)) (sCons (sTup sNil) sNil))))))))))))))))
def S8 : SS :=
 (sAsg 5 true (sBin .Add (sVar 5) (sLst (sCons (sSlice (sVar 3) none (some (sNeg (sCon (.int 1))))) (sCons (sBin .Add (sVar 3) (sTup (sCons (sBin .Add (sIdx (sVar 3) (sNeg (sCon (.int 1)))) (sCon (.int 1))) sNil))) (sCons (sBin .Add (sVar 3) (sTup (sCons (sCon (.int 1001)) sNil))) (sCons (sArgs listOp (sCons (sVar 3) sNil)) (sCons (sRev (sVar 3)) (sCons (sBin .Add (sVar 3) (sSlice (sVar 3) (some (sNeg (sCon (.int 1)))) none)) (sCons (sCon .non) (sCons (sCon (.int 5)) (sCons (sTup (sCons (sCon (.bl true)) sNil)) (sCons (sTup (sCons (sCon (.int 0)) (sCons (sCon (.int 1)) sNil))) (sCons (sTup (sCons (sCon (.int 2)) (sCons (sCon (.str "3")) sNil))) (sCons (sRgT (sCon (.int 1)) (sCon (.int 14))) (sCons (sRgT (sCon (.int 2)) (sCon (.int 14))) sNil))))))))))))))))
def S9b : SS :=
 (sSeq2 (sAsg 10 false (sArgs F_law_take (sCons (sVar 1) (sCons (sArgs lenOp (sCons (sVar 3) sNil)) sNil))))
 (sSeq2 (sExpr (sMeth mAppend (sVar 5) (sCons (sBin .Add (sBin .Add (sSlice (sVar 3) none (some (sVar 10))) (sTup (sCons (sBin .Add (sIdx (sVar 3) (sVar 10)) (sIdx (sLst (sCons (sCon (.int 1)) (sCons (sNeg (sCon (.int 1))) (sCons (sCon (.int 2)) (sCons (sIdx (sVar 3) (sCon (.int 0))) (sCons (sCon (.int 3)) sNil)))))) (sArgs F_law_take (sCons (sVar 1) (sCons (sCon (.int 5)) sNil))))) sNil))) (sSlice (sVar 3) (some (sBin .Add (sVar 10) (sCon (.int 1)))) none)) sNil)))
 (sSeq2 (sAsg 11 true (sLst sNil))
 (sSeq2 (sFor (sRng (sCons (sBin .Add (sCon (.int 1)) (sArgs F_law_take (sCons (sVar 1) (sCons (sCon (.int 4)) sNil)))) sNil)) (.name 12)
 (sSeq2 (sExpr (sMeth mAppend (sVar 11) (sCons (sBin .Add (sBin .Add (sIf (sB (sCmp .Gt (sArgs lenOp (sCons (sVar 11) sNil)) (sCon (.int 0)))) (sIdx (sVar 11) (sNeg (sCon (.int 1)))) (sCon (.int 1))) (sCon (.int 1))) (sArgs F_law_take (sCons (sVar 1) (sCons (sCon (.int 12)) sNil)))) sNil)))
 sSkip))
 (sSeq2 (sExpr (sMeth mAppend (sVar 5) (sCons (sArgs tupleOp (sCons (sVar 11) sNil)) sNil)))
 sSkip)))))
def S9 : SS := sFor (sRng (sCons (sCon (.int 4)) sNil)) (.name 6) S9b
def S10b : SS :=
 (sSeq2 (sIfS (sNotB (sB (sArgs F_law_is_row (sCons (sVar 7) sNil))))
 (sSeq2 (sIfS (sOrB (sB (sCmp .NotEq (sIdx (sArgs F_law_told (sCons (sCon (.int 1)) (sCons (sVar 7) sNil))) (sCon (.int 0))) (sCon (.str "malformed")))) (sB (sCmp .NotEq (sIdx (sArgs F_law_told (sCons (sCon (.int 2)) (sCons (sVar 7) sNil))) (sCon (.int 0))) (sCon (.str "malformed")))))
 (sSeq2 (sRet (sCon (.bl false)))
 sSkip)
 sSkip)
 sSkip)
 (sSeq2 (sAsg 13 false (sArgs F_law_broken (sCons (sVar 7) sNil)))
 (sSeq2 (sIfS (sNotB (sB (sArgs (F_law_same 8) (sCons (sArgs F_law_told (sCons (sCon (.int 1)) (sCons (sVar 7) sNil))) (sCons (sTup (sCons (sCon (.str "told")) (sCons (sVar 13) sNil))) sNil)))))
 (sSeq2 (sRet (sCon (.bl false)))
 sSkip)
 sSkip)
 (sSeq2 (sAsg 14 false (sTup (sCons (sCon (.str "refused")) (sCons (sCon (.str "branch")) sNil))))
 (sSeq2 (sIfS (sB (sCmp .Is (sVar 13) (sCon .non)))
 (sSeq2 (sAsg 15 false (sArgs F_law_class_of (sCons (sVar 7) sNil)))
 (sSeq2 (sAsg 14 false (sIf (sB (sArgs F_law_is_class (sCons (sVar 15) sNil))) (sTup (sCons (sCon (.str "told")) (sCons (sVar 15) sNil))) (sTup (sCons (sCon (.str "refused")) (sCons (sCon (.str "large")) sNil)))))
 sSkip))
 sSkip)
 (sSeq2 (sIfS (sNotB (sB (sArgs (F_law_same 8) (sCons (sArgs F_law_told (sCons (sCon (.int 2)) (sCons (sVar 7) sNil))) (sCons (sVar 14) sNil)))))
 (sSeq2 (sRet (sCon (.bl false)))
 sSkip)
 sSkip)
 sSkip))))))
 sSkip)
def S10 : SS := sFor (sSeq (sVar 5)) (.name 7) S10b
def S11b : SS :=
 (sSeq2 (sIfS (sB (sCmp .NotEq (sIdx (sArgs F_law_told (sCons (sCon (.int 0)) (sCons (sVar 8) sNil))) (sCon (.int 0))) (sCon (.str "malformed"))))
 (sSeq2 (sRet (sCon (.bl false)))
 sSkip)
 sSkip)
 sSkip)
def S11 : SS := sFor (sSeq (sLst (sCons (sCon .non) (sCons (sTup sNil) (sCons (sTup (sCons (sCon (.int 2)) (sCons (sCon (.int 4)) sNil))) (sCons (sLst (sCons (sCon (.int 2)) (sCons (sCon (.int 3)) sNil))) (sCons (sTup (sCons (sCon (.int 3)) (sCons (sCon (.int 2)) sNil))) (sCons (sCon (.int 5)) (sCons (sTup (sCons (sCon (.int 2)) sNil)) (sCons (sTup (sCons (sCon (.int 2)) (sCons (sCon (.int 301)) sNil))) sNil)))))))))) (.name 8) S11b
def S12 : SS :=
 (sRet (sCon (.bl true)))
theorem Tlaw_eq : Tlaw = (sSeq2 S1 (sSeq2 S2 (sSeq2 S3 (sSeq2 S4 (sSeq2 S5 (sSeq2 S6 (sSeq2 S7 (sSeq2 S8 (sSeq2 S9 (sSeq2 S10 (sSeq2 S11 (sSeq2 S12 sSkip)))))))))))) := rfl
theorem state_ok (ns : List Int) : ∃ a b, F_law_state [.scr ns] [] = .ok (.fr [.int a, .int b]) [] := by
  have loop := for_ok (body := (sSeq2 (sAsg 1 false (sBin .Add (sBin .Mult (sVar 1) (sCon (.int 1000003))) (sArgs absOp (sCons (sVar 3) sNil))))
    (sSeq2 (sAsg 2 false (sBin .Mod (sArgs intOp (sCons (sBin .Add (sBin .Mult (sVar 2) (sCon (.int 48271))) (sVar 3)) sNil)) (sCon (.int 2147483647))))
    sSkip))) (tg := .name 3) (I := fun env M => M = [] ∧ ∃ a b o3, env = [some (.scr ns), some (.d (.int a)), some (.d (.int b)), o3]) (cutG (ns.map D.int) none (some 63)) (fun d hd env M h => by
      obtain ⟨n, _, rfl⟩ := List.mem_map.mp (mem_cutG hd)
      obtain ⟨rfl, a, b, o3, rfl⟩ := h
      refine ⟨_, _, _, rfl, el_start ?_, rfl, a * 1000003 + n.natAbs, (b * 48271 + n) % 2147483647, some (.d (.int n)), rfl⟩
      repeat' (first | (wtm_at "mpA") | (wtm_at "mp2"))
      rfl)
  obtain ⟨env', M', e, rfl, a, b, o3, rfl⟩ := loop [some (.scr ns), some (.d (.int 0)), some (.d (.int 1)), none] [] ⟨rfl, 0, 1, _, rfl⟩
  refine ⟨a, b, ?_⟩
  unfold F_law_state
  refine e_fn rfl ?_
  unfold T_law_state
  repeat' (first | (wtm_at "mpA") | (wtm_at "mp2"))
  refine e_eq e ?_
  repeat' (first | (wtm_at "mpA") | (wtm_at "mp2"))
  rfl
theorem s1_ok (ns : List Int) : ∃ a b, S1 [some (.scr ns), none, none, none, none, none, none, none, none, none, none, none, none, none, none, none, none] [] = .ok (.next [some (.scr ns), some (.cell 0), none, none, none, none, none, none, none, none, none, none, none, none, none, none, none]) (St a b []) := by
  obtain ⟨a, b, hs⟩ := state_ok ns
  refine ⟨a, b, el_start ?_⟩
  unfold S1
  repeat' (first | (wtm_at "mpA") | (with_reducible apply e_call hs) | (wtm_at "mp1"))
  rfl
theorem idx2 {r : Int} (h : 0 ≤ r ∧ r < 2) : ∃ p : Int, ∀ M, idx (.fr [.int 12, .int 60]) (.d (.int r)) M = .ok (.d (.int p)) M := by
  have : r = 0 ∨ r = 1 := by omega
  rcases this with rfl | rfl
  · exact ⟨12, fun _ => rfl⟩
  · exact ⟨60, fun _ => rfl⟩
theorem s2_ok {a b : Int} {o0 o2 o3 o4 o5 o6 o7 o8 o9 o10 o11 o12 o13 o14 o15 o16 : Option AV} : ∃ ps a' b', S2 [o0, some (.cell 0), o2, o3, o4, o5, o6, o7, o8, o9, o10, o11, o12, o13, o14, o15, o16] (St a b []) = .ok (.next [o0, some (.cell 0), some (.d (ti (fromL ps))), o3, o4, o5, o6, o7, o8, o9, o10, o11, o12, o13, o14, o15, o16]) (St a' b' []) ∧ clsP ps = true ∧ okD ps ∧ ps.length ≤ 5 := by
  obtain ⟨r1, a1, b1, e1, g1⟩ := take_ok (a := a) (b := b) (Mt := []) (m := 2) (by omega)
  obtain ⟨p, ep⟩ := idx2 g1
  obtain ⟨ps, a2, b2, e2, h1, h2, h3⟩ := drawnC_ok (most := p) (a := a1) (b := b1) (Mt := [])
  refine ⟨ps, a2, b2, el_start ?_, h1, h2, h3⟩
  unfold S2
  repeat' (first | (wtm_at "mpA") | (with_reducible apply e_call e1) | (with_reducible apply p_idx (ep _)) | (with_reducible apply e_call e2) | (wtm_at "mp1"))
  rfl
theorem s3_ok {x : Int} {r : List Int} (h : clsB x r = true) (hl : r.length ≤ 10) {M : Mem} {o0 o1 o3 o4 o5 o6 o7 o8 o9 o10 o11 o12 o13 o14 o15 o16 : Option AV} : S3 [o0, o1, some (.d (ti (x :: r))), o3, o4, o5, o6, o7, o8, o9, o10, o11, o12, o13, o14, o15, o16] M = .ok (.next [o0, o1, some (.d (ti (x :: r))), some (.d (ti (lotP x r))), o4, o5, o6, o7, o8, o9, o10, o11, o12, o13, o14, o15, o16]) M := by
  have e : ∀ M, F_law_lot [.d (ti (x :: r))] M = .ok (.d (ti (lotP x r))) M := fun M => llot_ok h (by omega)
  refine el_start ?_
  unfold S3
  repeat' (first | (wtm_at "mpA") | (with_reducible apply e_call (e _)) | (wtm_at "mp1"))
  rfl
theorem lot_len (x : Int) (r : List Int) : (lotP x r).length = r.length + 1 := by
  cases r with
  | nil => rfl
  | cons c cs => show (lotW x c c cs).length + 1 + 1 = _; rw [lotW_len]; rfl
theorem s4_ok {x : Int} {r : List Int} (h : clsB x r = true) (hl : r.length ≤ 10) {M : Mem} {o0 o1 o4 o5 o6 o7 o8 o9 o10 o11 o12 o13 o14 o15 o16 : Option AV} : S4 [o0, o1, some (.d (ti (x :: r))), some (.d (ti (lotP x r))), o4, o5, o6, o7, o8, o9, o10, o11, o12, o13, o14, o15, o16] M = .ok (.next [o0, o1, some (.d (ti (x :: r))), some (.d (ti (lotP x r))), o4, o5, o6, o7, o8, o9, o10, o11, o12, o13, o14, o15, o16]) M := by
  have hll := lot_len x r
  have t0 : ∀ M, F_law_told [.d (.int 0), .d (ti (x :: r))] M = .ok (.d (.tup [.str "told", ti (lotP x r)])) M := fun M => told0 (loc_ok h hl) (odd_ti (n := 6) (by omega))
  have y0 : ∀ M, F_law_same 8 [.d (.tup [.str "told", ti (lotP x r)]), .d (.tup [.str "told", ti (lotP x r)])] M = .ok (.d (.bl true)) M := fun M => same_told fun M => same_ti (by omega)
  refine el_start ?_
  unfold S4
  repeat' (first | (wtm_at "mpA") | (with_reducible apply e_call (t0 _)) | (with_reducible apply e_call (y0 _)) | (wtm_at "mp1"))
  rfl
theorem s5_ok {x : Int} {r : List Int} (h : clsB x r = true) (hl : r.length ≤ 10) {M : Mem} {o0 o1 o3 o4 o5 o6 o7 o8 o9 o10 o11 o12 o13 o14 o15 o16 : Option AV} : S5 [o0, o1, some (.d (ti (x :: r))), o3, o4, o5, o6, o7, o8, o9, o10, o11, o12, o13, o14, o15, o16] M = .ok (.next [o0, o1, some (.d (ti (x :: r))), o3, some (.d (.int (condI (x :: r) (stepsL x r)))), o5, o6, o7, o8, o9, o10, o11, o12, o13, o14, o15, o16]) M := by
  have c1 : ∀ M, F_law_conductor [.d (ti (x :: r))] M = .ok (.d (.int (condI (x :: r) (stepsL x r)))) M := fun M => lcond_ok (cls_sm h).1 (cls_sm h).2 (by omega)
  refine el_start ?_
  unfold S5
  repeat' (first | (wtm_at "mpA") | (with_reducible apply e_call (c1 _)) | (wtm_at "mp1"))
  rfl

theorem e_okG {α β : Type} {kx : Exc → Mem → Out β} {res : Out β} {k : α → Mem → Out β} {r : Out α} {v : α} {M : Mem} (e : r = .ok v M) (h : k v M = res) : el r k kx = res := by rw [e]; exact h
theorem lot_head (x : Int) (r : List Int) : ∃ q, lotP x r = x :: q := by
  cases r with
  | nil => exact ⟨[], rfl⟩
  | cons c cs => exact ⟨_, rfl⟩
theorem bool_iff {b : Bool} {p : Prop} (h : b = true ↔ p) (hn : ¬ p) : b = false := by
  cases b with
  | false => rfl
  | true => exact absurd (h.mp rfl) hn
theorem s6_ok {x : Int} {r : List Int} (h : clsB x r = true) (hl : r.length ≤ 10) {a b : Int} {o0 o1 o2 o5 o6 o7 o8 o9 o10 o11 o12 o13 o14 o15 : Option AV} : ∃ (p9 p10 : Option AV) (X : Mem), S6 [o0, o1, o2, some (.d (ti (lotP x r))), some (.d (.int (condI (x :: r) (stepsL x r)))), o5, o6, o7, o8, o9, o10, o11, o12, o13, o14, o15, none] (St a b []) = .ok (.next [o0, o1, o2, some (.d (ti (lotP x r))), some (.d (.int (condI (x :: r) (stepsL x r)))), o5, o6, o7, o8, p9, p10, o11, o12, o13, o14, o15, none]) (St a b X) := by
  have sg := lot_sym h
  have bd := lot_bd h
  have nw := lot_new h
  have ll := lot_len x r
  obtain ⟨q, hq⟩ := lot_head x r
  have hx := bd x (by rw [hq]; exact List.mem_cons_self)
  obtain ⟨L, hL⟩ : ∃ L, L = lotP x r := ⟨_, rfl⟩
  obtain ⟨C, hC⟩ : ∃ C, C = condI (x :: r) (stepsL x r) := ⟨_, rfl⟩
  rw [← hL] at sg bd nw ll hq ⊢
  rw [← hC] at sg ⊢
  clear hL hC
  have sy : ∀ n, InG L n ↔ ¬ InG L (C - 1 - n) := fun n => sg.sym n ⟨n, by omega⟩
  have C0 : 0 ≤ C := by
    have : InG L C := by
      rw [sy C]
      intro z
      have := sg.pos _ z
      omega
    exact sg.pos _ this
  by_cases h9 : C ≤ 900
  · have hx60 : x ≤ 60 ∨ True := .inr trivial
    obtain ⟨kvs, hs, hK⟩ := sums_ok (lot := L) (most := C + x) (fun v hv => (bd v hv).1) (by omega) (by omega) (M := St a b [])
    have hc : ∀ o : Mem, (St a b [] ++ [some (MC.k kvs)])[1]? = some (some (.k kvs)) := fun _ => rfl
    have k1 : hasK kvs (C - 1) = false := bool_iff (hK _) (by
      rintro ⟨_, _, z⟩
      have := (sy 0).mp .zero
      rw [Int.sub_zero] at this
      exact this z)
    have k2 : (((List.range C.toNat).filter fun k : Nat => hasK kvs (k : Int)).map fun k : Nat => D.int (k : Int)).length * (2 : Int) = C := by
      have hf := half (E := C.toNat) (p := fun k : Nat => hasK kvs (k : Int)) (fun k hk => by
        have e1 := sy k
        have e2 : C - 1 - (k : Int) = ((C.toNat - 1 - k : Nat) : Int) := by omega
        rw [e2] at e1
        have i1 := hK k
        have i2 := hK ((C.toNat - 1 - k : Nat) : Int)
        cases hb : hasK kvs ((C.toNat - 1 - k : Nat) : Int) with
        | true => exact bool_iff i1 fun z => e1.mp z.2.2 (i2.mp hb).2.2
        | false =>
          refine i1.mpr ⟨by omega, by omega, e1.mpr fun z => ?_⟩
          rw [i2.mpr ⟨by omega, by omega, z⟩] at hb
          cases hb)
      rw [List.length_map]
      omega
    have k3 : ∀ k : Nat, k < x.toNat → hasK kvs (C + k) = true := fun k hk => (hK _).mpr ⟨by omega, by omega, by
      rw [sy (C + k)]
      intro z
      have := sg.pos _ z
      omega⟩
    have hlm : (L.map D.int).length ≤ 1000000 := by rw [List.length_map]; omega
    have lp : ∃ p10, forL (sSeq2 (sIfS (sInK (sIdx (sVar 3) (sVar 10)) (sArgsK F_law_sums (sCons (sSlice (sVar 3) none (some (sVar 10))) (sCons (sIdx (sVar 3) (sVar 10)) sNil)))) (sSeq2 (sRet (sCon (.bl false))) sSkip) sSkip) sSkip) (.name 10) [] (rngL 0 L.length) [o0, o1, o2, some (.d (ti L)), some (.d (.int C)), o5, o6, o7, o8, some (.cell 1), o10, o11, o12, o13, o14, o15, none] (St a b [some (.k kvs)]) = .ok (.next [o0, o1, o2, some (.d (ti L)), some (.d (.int C)), o5, o6, o7, o8, some (.cell 1), p10, o11, o12, o13, o14, o15, none]) (St a b [some (.k kvs)]) := by
      obtain ⟨env', M', e, p10, rfl, rfl⟩ := for_ok (tg := .name 10) (body := (sSeq2 (sIfS (sInK (sIdx (sVar 3) (sVar 10)) (sArgsK F_law_sums (sCons (sSlice (sVar 3) none (some (sVar 10))) (sCons (sIdx (sVar 3) (sVar 10)) sNil)))) (sSeq2 (sRet (sCon (.bl false))) sSkip) sSkip) sSkip)) (I := fun env M => ∃ o10, env = [o0, o1, o2, some (.d (ti L)), some (.d (.int C)), o5, o6, o7, o8, some (.cell 1), o10, o11, o12, o13, o14, o15, none] ∧ M = St a b [some (.k kvs)]) (rngL 0 L.length) (fun d hd env M he => by
        obtain ⟨o10, rfl, rfl⟩ := he
        obtain ⟨k, hk, rfl⟩ := rngL_mem hd
        rw [Int.zero_add]
        have e0 : L = L.take k ++ L.getD k 0 :: L.drop (k + 1) := by
          have h1 : L.drop k = L.getD k 0 :: L.drop (k + 1) := by
            rw [List.drop_eq_getElem_cons hk, List.getD_eq_getElem?_getD, List.getElem?_eq_getElem hk]
            rfl
          rw [← h1, List.take_append_drop]
        have hv := bd (L.getD k 0) (by
          rw [List.getD_eq_getElem?_getD, List.getElem?_eq_getElem hk]
          exact List.getElem_mem hk)
        have hn := nw _ _ _ e0
        obtain ⟨k2, hs2, hK2⟩ := sums_ok (lot := L.take k) (most := L.getD k 0) (fun v hv => (bd v (List.mem_of_mem_take hv)).1) (by rw [List.length_take]; omega) (by omega) (M := St a b [some (.k kvs)])
        have hf : hasK k2 (L.getD k 0) = false := bool_iff (hK2 _) fun z => hn z.2.2
        have i1 : ∀ M, idx (.d (ti L)) (.d (.int (k : Int))) M = .ok (.d (.int (L.getD k 0))) M := fun M => by rw [idx_tiI (by omega) (by omega), Int.toNat_natCast]
        have c1 : ∀ M, cutop (.d (ti L)) none (some (k : Int)) M = .ok (.d (ti (L.take k))) M := fun M => by
          show Out.ok (AV.d (.tup (cutG (L.map D.int) none (some (k : Int))))) M = _
          rw [cutG_map, cutG_0n]
        refine ⟨_, [o0, o1, o2, some (.d (ti L)), some (.d (.int C)), o5, o6, o7, o8, some (.cell 1), some (.d (.int (k : Int))), o11, o12, o13, o14, o15, none], St a b [some (.k kvs)], rfl, el_start ?_, _, rfl, rfl⟩
        repeat' (first | (wtm_at "mpA") | (with_reducible refine e_inK ?_) | (with_reducible refine e_argsK ?_) | (with_reducible apply p_idx (i1 _)) | (with_reducible apply p_cut (c1 _)) | (with_reducible apply e_okG hs2) | (with_reducible refine p_inK ?_) | (wtm_at "mp1"))
        rw [hf]
        rfl) _ _ ⟨o10, rfl, rfl⟩
      exact ⟨p10, e⟩
    obtain ⟨p10, hlp⟩ := lp
    refine ⟨some (.cell 1), p10, [some (.k kvs)], el_start ?_⟩
    have i0 : ∀ M, idx (.d (ti L)) (.d (.int 0)) M = .ok (.d (.int x)) M := fun M => by rw [hq]; exact idx_head
    have hcc : (St a b [some (MC.k kvs)])[1]? = some (some (.k kvs)) := rfl
    have hcl : (((List.range C.toNat).filter fun k : Nat => hasK kvs (k : Int)).map fun k : Nat => D.int (k : Int)).length ≤ 1000000 := by
      rw [List.length_map]
      exact Nat.le_trans (List.length_filter_le ..) (by rw [List.length_range]; omega)
    clear sg sy nw bd hK
    unfold S6
    have tail : ∀ (kk : Fl → Mem → Out Fl), True := fun _ => trivial
    repeat' (first | (wtm_at "mpA") | (with_reducible apply p_idx (i0 _)) | (with_reducible refine e_asgK ?_) | (with_reducible refine e_argsK ?_) | (with_reducible apply e_okG hs) | (with_reducible refine p_inD (dIn_k hcc) ?_) | (wtm_at "mp0"))
    have pk1 : dIn (.d (.int (C - 1))) (.cell (St a b []).length) (St a b [] ++ [some (.k kvs)]) = some false := by rw [dIn_k lastK_get, k1]
    have all3 : ∀ M, allOp [.d (.lst ((List.range x.toNat).map fun k : Nat => D.bl (hasK kvs (C + (k : Int)))))] M = .ok (.d (.bl true)) M := fun M => by
      have := all_bls (bs := (List.range x.toNat).map fun k : Nat => hasK kvs (C + (k : Int))) (M := M)
      rw [List.map_map] at this
      refine this.trans ?_
      rw [show ((List.range x.toNat).map fun k : Nat => hasK kvs (C + (k : Int))).all id = true by
        rw [List.all_eq_true]
        intro b hb
        obtain ⟨k, hk, rfl⟩ := List.mem_map.mp hb
        exact k3 k (List.mem_range.mp hk)]
    by_cases hC0 : 0 < C
    · rw [decide_eq_true hC0]
      repeat' (first | (wtm_at "mpA") | (with_reducible apply p_inD pk1) | (wtm_at "mp0"))
      refine e_compRF (fun k : Nat => D.int (k : Int)) (fun k : Nat => hasK kvs (k : Int)) (by omega) (fun j hj => ⟨_, rfl, el_start ?_, fun _ => ⟨.d (.int (j : Int)), el_start ?_, rfl⟩⟩) ?_
      · repeat' (first | (wtm_at "mpA") | (with_reducible refine p_inD (dIn_k lastK_get) ?_) | (wtm_at "mp1"))
        simp
      · repeat' (first | (wtm_at "mpA") | (wtm_at "mp1"))
        rfl
      · generalize ((List.range C.toNat).filter fun k : Nat => hasK kvs (k : Int)).map (fun k : Nat => D.int (k : Int)) = Z at *
        repeat' (first | (wtm_at "mpA") | (with_reducible apply p_idx (i0 _)) | (wtm_at "mp0"))
        refine e_compR (fun k : Nat => D.bl (hasK kvs (C + (k : Int)))) (by omega) (fun j hj => ⟨_, rfl, .d (.bl (hasK kvs (C + (j : Int)))), el_start ?_, rfl⟩) ?_
        · repeat' (first | (wtm_at "mpA") | (with_reducible refine p_inD (dIn_k lastK_get) ?_) | (wtm_at "mp1"))
          simp
        · repeat' (first | (wtm_at "mpA") | (with_reducible apply e_call (all3 _)) | (wtm_at "mp0"))
          rw [List.length_map]
          refine e_next hlp ?_
          rfl
    · rw [decide_eq_false hC0]
      repeat' (first | (wtm_at "mpA") | (wtm_at "mp0"))
      refine e_compRF (fun k : Nat => D.int (k : Int)) (fun k : Nat => hasK kvs (k : Int)) (by omega) (fun j hj => ⟨_, rfl, el_start ?_, fun _ => ⟨.d (.int (j : Int)), el_start ?_, rfl⟩⟩) ?_
      · repeat' (first | (wtm_at "mpA") | (with_reducible refine p_inD (dIn_k lastK_get) ?_) | (wtm_at "mp1"))
        simp
      · repeat' (first | (wtm_at "mpA") | (wtm_at "mp1"))
        rfl
      · generalize ((List.range C.toNat).filter fun k : Nat => hasK kvs (k : Int)).map (fun k : Nat => D.int (k : Int)) = Z at *
        repeat' (first | (wtm_at "mpA") | (with_reducible apply p_idx (i0 _)) | (wtm_at "mp0"))
        refine e_compR (fun k : Nat => D.bl (hasK kvs (C + (k : Int)))) (by omega) (fun j hj => ⟨_, rfl, .d (.bl (hasK kvs (C + (j : Int)))), el_start ?_, rfl⟩) ?_
        · repeat' (first | (wtm_at "mpA") | (with_reducible refine p_inD (dIn_k lastK_get) ?_) | (wtm_at "mp1"))
          simp
        · repeat' (first | (wtm_at "mpA") | (with_reducible apply e_call (all3 _)) | (wtm_at "mp0"))
          rw [List.length_map]
          refine e_next hlp ?_
          rfl
  · refine ⟨o9, o10, [], el_start ?_⟩
    unfold S6
    repeat' (first | (wtm_at "mpA") | (wtm_at "mp1"))
    rfl

/-- a row that is tried -/
def RowOk (v : D) : Prop := (∃ x r, v = ti (x :: r) ∧ r.length ≤ 7000) ∨ (∀ M, Fis_generators [.d v] M = .ok (.d (.bl false)) M ∧ F_law_is_row [.d v] M = .ok (.d (.bl false)) M)
theorem s10_no {v : D} {M : Mem} {o0 o1 o2 o3 o4 o5 o6 o8 o9 o10 o11 o12 o13 o14 o15 o16 : Option AV} (h : ∀ M, Fis_generators [.d v] M = .ok (.d (.bl false)) M ∧ F_law_is_row [.d v] M = .ok (.d (.bl false)) M) :
    S10b [o0, o1, o2, o3, o4, o5, o6, some (.d v), o8, o9, o10, o11, o12, o13, o14, o15, o16] M = .ok (.next [o0, o1, o2, o3, o4, o5, o6, some (.d v), o8, o9, o10, o11, o12, o13, o14, o15, o16]) M := by
  have lr : ∀ M, F_law_is_row [.d v] M = .ok (.d (.bl false)) M := fun M => (h M).2
  have t1 : ∀ M, F_law_told [.d (.int 1), .d v] M = .ok (.d (.tup [.str "malformed", .non])) M := fun M => told1M (bro_no (h M).1)
  have t2 : ∀ M, F_law_told [.d (.int 2), .d v] M = .ok (.d (.tup [.str "malformed", .non])) M := fun M => told2M (col_no (h M).1)
  refine el_start ?_
  unfold S10b
  repeat' (first | (wtm_at "mpA") | (with_reducible apply e_call (lr _)) | (with_reducible apply e_call (t1 _)) | (with_reducible apply e_call (t2 _)) | (wtm_at "mp1"))
  rfl
theorem oddN1 {n : Nat} {M : Mem} : F_law_odd (n + 1) [.d .non] M = .ok (.d (.bl false)) M := by
  rw [F_law_odd]
  refine e_fn rfl ?_
  unfold T_law_odd
  repeat' (first | (wtm_at "mpA") | (wtm_at "mp2"))
theorem s10b_ok {v : D} {M : Mem} {o0 o1 o2 o3 o4 o5 o6 o8 o9 o10 o11 o12 o13 o14 o15 o16 : Option AV} (h : RowOk v) :
    ∃ p13 p14 p15 : Option AV, S10b [o0, o1, o2, o3, o4, o5, o6, some (.d v), o8, o9, o10, o11, o12, o13, o14, o15, o16] M = .ok (.next [o0, o1, o2, o3, o4, o5, o6, some (.d v), o8, o9, o10, o11, o12, p13, p14, p15, o16]) M := by
  rcases h with ⟨x, r, rfl, hl⟩ | h
  · cases hG : GenB x r with
    | false => exact ⟨o13, o14, o15, s10_no fun M => ⟨by rw [isgen_ok (by omega), hG], by rw [lisrow_ok (by omega), hG]⟩⟩
    | true =>
      have g := gen_facts hG
      have lr : ∀ M, F_law_is_row [.d (ti (x :: r))] M = .ok (.d (.bl true)) M := fun M => by rw [lisrow_ok (by omega), hG]
      have lb : ∀ M, F_law_broken [.d (ti (x :: r))] M = .ok (.d (brkV x r)) M := fun M => lbrk_ok hG
      cases hb : brkL x r with
      | cons k l =>
        have ev : brkV x r = .int (1 + k) := by unfold brkV; rw [hb]
        rw [ev] at lb
        have t1 : ∀ M, F_law_told [.d (.int 1), .d (ti (x :: r))] M = .ok (.d (.tup [.str "told", .int (1 + k)])) M := fun M => told1 (by rw [brkgen_ok hG, ev]) (oddI (n := 7))
        have t2 : ∀ M, F_law_told [.d (.int 2), .d (ti (x :: r))] M = .ok (.d (.tup [.str "refused", .str "branch"])) M := fun M => told2B (col_brk hG hb)
        have y1 : ∀ M, F_law_same 8 [.d (.tup [.str "told", .int (1 + k)]), .d (.tup [.str "told", .int (1 + k)])] M = .ok (.d (.bl true)) M := fun M => same_told fun M => by rw [sameI, decide_eq_true rfl]
        have y2 : ∀ M, F_law_same 8 [.d (.tup [.str "refused", .str "branch"]), .d (.tup [.str "refused", .str "branch"])] M = .ok (.d (.bl true)) M := fun M => same_two (fun _ => sameW (by decide +kernel)) fun _ => sameW (by decide +kernel)
        refine ⟨some (.d (.int (1 + k))), some (.d (.tup [.str "refused", .str "branch"])), o15, el_start ?_⟩
        unfold S10b
        repeat' (first | (wtm_at "mpA") | (with_reducible apply e_call (lr _)) | (with_reducible apply e_call (lb _)) | (with_reducible apply e_call (t1 _)) | (with_reducible apply e_call (t2 _)) | (with_reducible apply e_call (y1 _)) | (with_reducible apply e_call (y2 _)) | (wtm_at "mp1"))
        rfl
      | nil =>
        have ev : brkV x r = .non := by unfold brkV; rw [hb]
        rw [ev] at lb
        have hcl : (clP x r).tail.length ≤ 90000 := by rw [clP_len]; omega
        have hcl2 : (clP x r).length ≤ 90000 := by rw [clP_head, List.length_cons, clP_len]; omega
        have lc : ∀ M, F_law_class_of [.d (ti (x :: r))] M = .ok (.d (ti (clP x r))) M := fun M => lcof_ok hG
        have li : ∀ M, F_law_is_class [.d (ti (clP x r))] M = .ok (.d (.bl (clsB x (clP x r).tail))) M := fun M => by
          have := lisclass_ok (x := x) (r := (clP x r).tail) (M := M) hcl
          rw [← clP_head] at this
          exact this
        have t1 : ∀ M, F_law_told [.d (.int 1), .d (ti (x :: r))] M = .ok (.d (.tup [.str "told", .non])) M := fun M => told1 (by rw [brkgen_ok hG, ev]) (oddN1 (n := 7))
        have y1 : ∀ M, F_law_same 8 [.d (.tup [.str "told", .non]), .d (.tup [.str "told", .non])] M = .ok (.d (.bl true)) M := fun M => same_told fun M => sameN
        have cg := fun M => colg_ok hG hb (M := M)
        cases hc : clsB x (clP x r).tail with
        | true =>
          rw [hc] at li cg
          have t2 : ∀ M, F_law_told [.d (.int 2), .d (ti (x :: r))] M = .ok (.d (.tup [.str "told", ti (clP x r)])) M := fun M => told2 (by rw [cg, if_pos rfl]) (odd_ti (n := 6) hcl2)
          have y2 : ∀ M, F_law_same 8 [.d (.tup [.str "told", ti (clP x r)]), .d (.tup [.str "told", ti (clP x r)])] M = .ok (.d (.bl true)) M := fun M => same_told fun M => same_ti hcl2
          refine ⟨some (.d .non), some (.d (.tup [.str "told", ti (clP x r)])), some (.d (ti (clP x r))), el_start ?_⟩
          unfold S10b
          repeat' (first | (wtm_at "mpA") | (with_reducible apply e_call (lr _)) | (with_reducible apply e_call (lb _)) | (with_reducible apply e_call (t1 _)) | (with_reducible apply e_call (t2 _)) | (with_reducible apply e_call (y1 _)) | (with_reducible apply e_call (y2 _)) | (with_reducible apply e_call (lc _)) | (with_reducible apply e_call (li _)) | (wtm_at "mp1"))
          rfl
        | false =>
          rw [hc] at li cg
          have t2 : ∀ M, F_law_told [.d (.int 2), .d (ti (x :: r))] M = .ok (.d (.tup [.str "refused", .str "large"])) M := fun M => told2R (by rw [cg, if_neg (by decide)])
          have y2 : ∀ M, F_law_same 8 [.d (.tup [.str "refused", .str "large"]), .d (.tup [.str "refused", .str "large"])] M = .ok (.d (.bl true)) M := fun M => same_large
          refine ⟨some (.d .non), some (.d (.tup [.str "refused", .str "large"])), some (.d (ti (clP x r))), el_start ?_⟩
          unfold S10b
          repeat' (first | (wtm_at "mpA") | (with_reducible apply e_call (lr _)) | (with_reducible apply e_call (lb _)) | (with_reducible apply e_call (t1 _)) | (with_reducible apply e_call (t2 _)) | (with_reducible apply e_call (y1 _)) | (with_reducible apply e_call (y2 _)) | (with_reducible apply e_call (lc _)) | (with_reducible apply e_call (li _)) | (wtm_at "mp1"))
          rfl
  · exact ⟨o13, o14, o15, s10_no h⟩

abbrev AreN (v : D) : Prop := ∀ M, Fare_integers [.d v] M = .ok (.d (.bl false)) M
theorem are_non : AreN .non := fun M => by
  unfold Fare_integers
  refine e_fn rfl ?_
  unfold Tare_integers
  repeat' (first | (wtm_at "mpA") | (wtm_at "mp1"))
theorem are_int {i : Int} : AreN (.int i) := fun M => by
  unfold Fare_integers
  refine e_fn rfl ?_
  unfold Tare_integers
  repeat' (first | (wtm_at "mpA") | (wtm_at "mp1"))
theorem are_lst {xs : List D} : AreN (.lst xs) := fun M => by
  unfold Fare_integers
  refine e_fn rfl ?_
  unfold Tare_integers
  repeat' (first | (wtm_at "mpA") | (wtm_at "mp1"))
theorem isint_b {b : Bool} {M : Mem} : Fis_integer [.d (.bl b)] M = .ok (.d (.bl false)) M := by
  unfold Fis_integer
  refine e_fn rfl ?_
  unfold Tis_integer
  repeat' (first | (wtm_at "mpA") | (wtm_at "mp1"))
theorem are_T : AreN (.tup [.bl true]) := fun M => by
  unfold Fare_integers
  refine e_fn rfl ?_
  unfold Tare_integers
  repeat' (first | (wtm_at "mpA") | (with_reducible refine e_call isint_b ?_) | (wtm_at "mp2"))
theorem gen_of {v : D} (h : AreN v) {M : Mem} : Fis_generators [.d v] M = .ok (.d (.bl false)) M := by
  unfold Fis_generators
  refine e_fn rfl ?_
  unfold Tis_generators
  repeat' (first | (wtm_at "mpA") | (with_reducible apply e_call (h _)) | (wtm_at "mp1"))
theorem gen_nil {M : Mem} : Fis_generators [.d (ti [])] M = .ok (.d (.bl false)) M := by
  have a : ∀ M, Fare_integers [.d (ti [])] M = .ok (.d (.bl true)) M := fun M => are_ok (by simp)
  unfold Fis_generators
  refine e_fn rfl ?_
  unfold Tis_generators
  repeat' (first | (wtm_at "mpA") | (with_reducible apply e_call (a _)) | (wtm_at "mp1"))
theorem isclass_nil {M : Mem} : Fis_class [.d (ti [])] M = .ok (.d (.bl false)) M := by
  unfold Fis_class
  refine e_fn rfl ?_
  unfold Tis_class
  repeat' (first | (wtm_at "mpA") | (with_reducible refine e_call (are_ok (by simp)) ?_) | (wtm_at "mp1"))
theorem isclass_lst {ys : List D} {M : Mem} : Fis_class [.d (.lst ys)] M = .ok (.d (.bl false)) M := by
  have a : ∀ M, Fare_integers [.d (.lst ys)] M = .ok (.d (.bl false)) M := fun M => by
    unfold Fare_integers
    refine e_fn rfl ?_
    unfold Tare_integers
    repeat' (first | (wtm_at "mpA") | (wtm_at "mp1"))
  unfold Fis_class
  refine e_fn rfl ?_
  unfold Tis_class
  repeat' (first | (wtm_at "mpA") | (with_reducible apply e_call (a _)) | (wtm_at "mp1"))
theorem isint_s {s : Str} {M : Mem} : Fis_integer [.d (.str s)] M = .ok (.d (.bl false)) M := by
  unfold Fis_integer
  refine e_fn rfl ?_
  unfold Tis_integer
  repeat' (first | (wtm_at "mpA") | (wtm_at "mp1"))
theorem are_2S : AreN (.tup [.int 2, .str "3"]) := fun M => by
  unfold Fare_integers
  refine e_fn rfl ?_
  unfold Tare_integers
  repeat' (first | (wtm_at "mpA") | (with_reducible refine e_call isint ?_) | (with_reducible refine e_call isint_s ?_) | (wtm_at "mp2"))
theorem isclass_of {v : D} (h : AreN v) {M : Mem} : Fis_class [.d v] M = .ok (.d (.bl false)) M := by
  unfold Fis_class
  refine e_fn rfl ?_
  unfold Tis_class
  repeat' (first | (wtm_at "mpA") | (with_reducible apply e_call (h _)) | (wtm_at "mp1"))
theorem wholeB {b : Bool} {M : Mem} : F_law_is_whole [.d (.bl b)] M = .ok (.d (.bl false)) M := by
  unfold F_law_is_whole
  refine e_fn rfl ?_
  unfold T_law_is_whole
  repeat' (first | (wtm_at "mpA") | (wtm_at "mp1"))
theorem wholeS {s : Str} {M : Mem} : F_law_is_whole [.d (.str s)] M = .ok (.d (.bl false)) M := by
  unfold F_law_is_whole
  refine e_fn rfl ?_
  unfold T_law_is_whole
  repeat' (first | (wtm_at "mpA") | (wtm_at "mp1"))
theorem rowN {v : D} (hv : v = .non ∨ v = .int 5 ∨ (∃ xs, v = .lst xs) ∨ v = .tup []) {M : Mem} : F_law_is_row [.d v] M = .ok (.d (.bl false)) M := by
  unfold F_law_is_row
  refine e_fn rfl ?_
  unfold T_law_is_row
  rcases hv with rfl | rfl | ⟨xs, rfl⟩ | rfl
  · repeat' (first | (wtm_at "mpA") | (wtm_at "mp1"))
  · repeat' (first | (wtm_at "mpA") | (wtm_at "mp1"))
  · repeat' (first | (wtm_at "mpA") | (wtm_at "mp1"))
  · repeat' (first | (wtm_at "mpA") | (wtm_at "mp1"))
theorem rowT {M : Mem} : F_law_is_row [.d (.tup [.bl true])] M = .ok (.d (.bl false)) M := by
  unfold F_law_is_row
  refine e_fn rfl ?_
  unfold T_law_is_row
  repeat' (first | (wtm_at "mpA") | (with_reducible refine e_call wholeB ?_) | (wtm_at "mp2"))
theorem row2S {M : Mem} : F_law_is_row [.d (.tup [.int 2, .str "3"])] M = .ok (.d (.bl false)) M := by
  unfold F_law_is_row
  refine e_fn rfl ?_
  unfold T_law_is_row
  repeat' (first | (wtm_at "mpA") | (with_reducible refine e_call whole ?_) | (with_reducible refine e_call wholeS ?_) | (wtm_at "mp2"))
theorem rok_ti {x : Int} {r : List Int} (h : r.length ≤ 7000) : RowOk (ti (x :: r)) := .inl ⟨x, r, rfl, h⟩
theorem rok_non : RowOk .non := .inr fun _ => ⟨gen_of are_non, rowN (.inl rfl)⟩
theorem rok_five : RowOk (.int 5) := .inr fun _ => ⟨gen_of are_int, rowN (.inr (.inl rfl))⟩
theorem rok_lst {xs : List D} : RowOk (.lst xs) := .inr fun _ => ⟨gen_of are_lst, rowN (.inr (.inr (.inl ⟨_, rfl⟩)))⟩
theorem rok_nil : RowOk (.tup []) := .inr fun _ => ⟨gen_nil, rowN (.inr (.inr (.inr rfl)))⟩
theorem rok_T : RowOk (.tup [.bl true]) := .inr fun _ => ⟨gen_of are_T, rowT⟩
theorem rok_2S : RowOk (.tup [.int 2, .str "3"]) := .inr fun _ => ⟨gen_of are_2S, row2S⟩
theorem rok_any {xs : List Int} (h : xs.length ≤ 7000) : RowOk (ti xs) := by
  cases xs with
  | nil => exact rok_nil
  | cons x r => exact rok_ti (by rw [List.length_cons] at h; omega)
def bads0 : List D := [.non, .tup [], .tup [.int 2, .int 4], .lst [.int 2, .int 3], .tup [.int 3, .int 2], .int 5, .tup [.int 2], .tup [.int 2, .int 301]]
theorem bads0_ok : ∀ v ∈ bads0, ∀ M, Fis_class [.d v] M = .ok (.d (.bl false)) M := by
  intro v hv M
  unfold bads0 at hv
  simp only [List.mem_cons, List.not_mem_nil, or_false] at hv
  rcases hv with rfl | rfl | rfl | rfl | rfl | rfl | rfl | rfl
  · exact isclass_of are_non
  · exact isclass_nil
  · exact (isclass_ok (x := 2) (r := [4]) (by decide)).trans (by rw [show clsB 2 [4] = false by decide +kernel])
  · exact isclass_of are_lst
  · exact (isclass_ok (x := 3) (r := [2]) (by decide)).trans (by rw [show clsB 3 [2] = false by decide +kernel])
  · exact isclass_of are_int
  · exact (isclass_ok (x := 2) (r := []) (by decide)).trans (by rw [show clsB 2 [] = false by decide +kernel])
  · exact (isclass_ok (x := 2) (r := [301]) (by decide)).trans (by rw [show clsB 2 [301] = false by decide +kernel])
theorem s11_ok {M : Mem} {o0 o1 o2 o3 o4 o5 o6 o7 o8 o9 o10 o11 o12 o13 o14 o15 o16 : Option AV} : ∃ p8, S11 [o0, o1, o2, o3, o4, o5, o6, o7, o8, o9, o10, o11, o12, o13, o14, o15, o16] M = .ok (.next [o0, o1, o2, o3, o4, o5, o6, o7, p8, o9, o10, o11, o12, o13, o14, o15, o16]) M := by
  obtain ⟨env', M', e, p8, rfl, rfl⟩ := for_ok (tg := .name 8) (body := S11b) (I := fun env M' => ∃ o8, env = [o0, o1, o2, o3, o4, o5, o6, o7, o8, o9, o10, o11, o12, o13, o14, o15, o16] ∧ M' = M) bads0 (fun d hd env M' he => by
    obtain ⟨o8, rfl, rfl⟩ := he
    have t0 : ∀ M, F_law_told [.d (.int 0), .d d] M = .ok (.d (.tup [.str "malformed", .non])) M := fun M => told0M (loc_no (bads0_ok d hd M))
    refine ⟨_, [o0, o1, o2, o3, o4, o5, o6, o7, some (.d d), o9, o10, o11, o12, o13, o14, o15, o16], M', rfl, el_start ?_, _, rfl, rfl⟩
    unfold S11b
    repeat' (first | (wtm_at "mpA") | (with_reducible apply e_call (t0 _)) | (wtm_at "mp1"))
    rfl) _ _ ⟨o8, rfl, rfl⟩
  refine ⟨p8, el_start ?_⟩
  unfold S11
  repeat' (first | (wtm_at "mpA") | (wtm_at "mp0"))
  refine e_next e ?_
  rfl

theorem s7_ok {M : Mem} {L : List Int} (hl : L.length ≤ 1000) {o0 o1 o2 o4 o5 o6 o7 o8 o9 o10 o11 o12 o13 o14 o15 o16 : Option AV} : ∃ V : List D, S7 [o0, o1, o2, some (.d (ti L)), o4, o5, o6, o7, o8, o9, o10, o11, o12, o13, o14, o15, o16] M = .ok (.next [o0, o1, o2, some (.d (ti L)), o4, some (.cell M.length), o6, o7, o8, o9, o10, o11, o12, o13, o14, o15, o16]) (M ++ [some (.l V)]) ∧ (∀ v ∈ V, RowOk v) ∧ V.length = 14 := by
  refine ⟨[ti L, ti [1], ti [2, 3], ti [4, 6, 13], ti [4, 6, 11], ti [4, 6, 12, 13], ti [3, 5, 7], ti [2, 1000], ti [2, 999], ti [1, 2], ti [61, 62], ti [59, 61], ti [1000], ti []], el_start ?_, fun v hv => ?_, rfl⟩
  · unfold S7
    repeat' (first | (wtm_at "mpA") | (wtm_at "mp1"))
    rfl
  · simp only [List.mem_cons, List.not_mem_nil, or_false] at hv
    rcases hv with rfl | rfl | rfl | rfl | rfl | rfl | rfl | rfl | rfl | rfl | rfl | rfl | rfl | rfl
    · exact rok_any (by omega)
    all_goals exact rok_any (by decide)

theorem cutG_last {α : Type} (xs : List α) (h : 0 < xs.length) : cutG xs (some (-1)) none = xs.drop (xs.length - 1) := by
  have e2 := cutG_n0 xs (xs.length - 1)
  rw [← e2]
  unfold cutG
  have e : HT.sIx xs.length 0 (some (-1)) = HT.sIx xs.length 0 (some ((xs.length - 1 : Nat) : Int)) := by
    rw [HT.sIx_nat]
    show (if (-1 : Int) < 0 then ((-1 : Int) + (xs.length : Int)).toNat else min (-1 : Int).toNat xs.length) = _
    rw [if_pos (by decide)]
    omega
  rw [e]
theorem last_of8 {ds : List Int} (h : ds ≠ []) : ∃ init z, ds = init ++ [z] := ⟨ds.dropLast, ds.getLast h, (List.dropLast_concat_getLast h).symm⟩
theorem s8_ok {M : Mem} {V : List D} {y : Int} {q : List Int} (hl : q.length ≤ 1000) (hV : V.length = 14 ∧ ∀ v ∈ V, RowOk v) {o0 o1 o2 o4 o6 o7 o8 o9 o10 o11 o12 o13 o14 o15 o16 : Option AV} : ∃ W : List D, S8 [o0, o1, o2, some (.d (ti (y :: q))), o4, some (.cell M.length), o6, o7, o8, o9, o10, o11, o12, o13, o14, o15, o16] (M ++ [some (.l V)]) = .ok (.next [o0, o1, o2, some (.d (ti (y :: q))), o4, some (.cell (M.length + 1)), o6, o7, o8, o9, o10, o11, o12, o13, o14, o15, o16]) (M ++ [some (.l V)] ++ [some (.l W)]) ∧ (∀ v ∈ W, RowOk v) ∧ W.length = 27 := by
  let L : List Int := y :: q
  let z : Int := lastI L
  have hL : L.length ≤ 1001 := by show q.length + 1 ≤ 1001; omega
  let N : List D := [ti L.dropLast, ti (L ++ [z + 1]), ti (L ++ [1001]), .lst (L.map .int), .tup (L.map D.int).reverse, ti (L ++ [z]), .non, .int 5, .tup [.bl true], ti [0, 1], .tup [.int 2, .str "3"], .tup (rngL 1 13), .tup (rngL 2 12)]
  have hlm : (L.map D.int).length ≤ 1000000 := by rw [List.length_map]; omega
  have c1 : ∀ M, cutop (.d (ti L)) none (some (-1)) M = .ok (.d (ti L.dropLast)) M := fun M => by
    show Out.ok (AV.d (.tup (cutG (L.map D.int) none (some (-1))))) M = _
    rw [cutG_map, cutG_init]
  have c2 : ∀ M, cutop (.d (ti L)) (some (-1)) none M = .ok (.d (ti [z])) M := fun M => by
    show Out.ok (AV.d (.tup (cutG (L.map D.int) (some (-1)) none))) M = _
    rw [cutG_map, cutG_last L (by show 0 < q.length + 1; omega)]
    have : L.drop (L.length - 1) = [z] := by
      have hne : L ≠ [] := List.cons_ne_nil _ _
      obtain ⟨init, w, e⟩ := last_of8 hne
      have hz : z = w := by
        show lastI L = w
        rw [e]
        unfold lastI
        simp
      rw [hz, e]
      simp
    rw [this]
  have i1 : ∀ M, idx (.d (ti L)) (.d (.int (-1))) M = .ok (.d (.int z)) M := fun M => idx_last
  have q1 : ∀ w M, binop .Add (opnd M (.d (ti L))) (opnd M (.d (.tup [.int w]))) M = .ok (.d (ti (L ++ [w]))) M := fun w M => by
    rw [add_tup (by rw [List.length_map]; simp; omega), show [D.int w] = [w].map D.int from rfl, ← List.map_append]
  have q2 : ∀ w M, binop .Add (opnd M (.d (ti L))) (opnd M (.d (ti [w]))) M = .ok (.d (ti (L ++ [w]))) M := fun w M => q1 w M
  have ac : binop .Add (opnd (M ++ [some (.l V)]) (.cell M.length)) (opnd (M ++ [some (.l V)]) (.fr N)) (M ++ [some (.l V)]) = .ok (.fr (V ++ N)) (M ++ [some (.l V)]) := add_cf last_get (by rw [hV.1]; show 14 + 13 ≤ 1000000; decide)
  have r1 : ∀ M, rgTOp (.d (.int 1)) (.d (.int 14)) M = .ok (.d (.tup (rngL 1 13))) M := fun _ => rfl
  have r2 : ∀ M, rgTOp (.d (.int 2)) (.d (.int 14)) M = .ok (.d (.tup (rngL 2 12))) M := fun _ => rfl
  refine ⟨V ++ N, el_start ?_, fun v hv => ?_, by rw [List.length_append, hV.1]; rfl⟩
  · unfold S8
    repeat' (first | (wtm_at "mpA") | (with_reducible apply p_cut (c1 _)) | (with_reducible apply p_cut (c2 _)) | (with_reducible apply p_idx (i1 _)) | (with_reducible apply p_bin (q2 _ _)) | (with_reducible apply p_bin (q1 _ _)) | (with_reducible apply e_call lst_tup) | (with_reducible apply e_rgT) | (with_reducible apply e_okG (r1 _)) | (with_reducible apply e_okG (r2 _)) | (wtm_at "mp0"))
    refine p_bin ac ?_
    have el : (M ++ [some (MC.l V)]).length = M.length + 1 := by simp
    repeat' (first | (wtm_at "mpA") | (wtm_at "mp1"))
    rw [el]
    rfl
  · rcases List.mem_append.mp hv with hv | hv
    · exact hV.2 v hv
    · simp only [N, List.mem_cons, List.not_mem_nil, or_false] at hv
      rcases hv with rfl | rfl | rfl | rfl | rfl | rfl | rfl | rfl | rfl | rfl | rfl | rfl | rfl
      · exact rok_any (by rw [List.length_dropLast]; omega)
      · exact rok_any (by rw [List.length_append, List.length_singleton]; omega)
      · exact rok_any (by rw [List.length_append, List.length_singleton]; omega)
      · exact rok_lst
      · rw [← List.map_reverse]
        exact rok_any (xs := L.reverse) (by rw [List.length_reverse]; omega)
      · exact rok_any (by rw [List.length_append, List.length_singleton]; omega)
      · exact rok_non
      · exact rok_five
      · exact rok_T
      · exact rok_any (xs := [0, 1]) (by decide)
      · exact rok_2S
      · exact rok_any (xs := [1, 2, 3, 4, 5, 6, 7, 8, 9, 10, 11, 12, 13]) (by decide)
      · exact rok_any (xs := [2, 3, 4, 5, 6, 7, 8, 9, 10, 11, 12, 13]) (by decide)

theorem s10_ok {M : Mem} {c : Nat} {W : List D} (hc : M[c]? = some (some (.l W))) (hW : ∀ w ∈ W, RowOk w) {o0 o1 o2 o3 o4 o6 o7 o8 o9 o10 o11 o12 o13 o14 o15 o16 : Option AV} : ∃ p7 p13 p14 p15 : Option AV, S10 [o0, o1, o2, o3, o4, some (.cell c), o6, o7, o8, o9, o10, o11, o12, o13, o14, o15, o16] M = .ok (.next [o0, o1, o2, o3, o4, some (.cell c), o6, p7, o8, o9, o10, o11, o12, p13, p14, p15, o16]) M := by
  have hdp : ∀ env M', (∃ o7 o13 o14 o15 : Option AV, env = [o0, o1, o2, o3, o4, some (.cell c), o6, o7, o8, o9, o10, o11, o12, o13, o14, o15, o16] ∧ M' = M) → depsOk M' [(c, W)] = true := by
    rintro env M' ⟨_, _, _, _, _, rfl⟩
    unfold depsOk
    simp [hc]
  obtain ⟨env', M', e, p7, p13, p14, p15, rfl, rfl⟩ := for_dep (tg := .name 7) (body := S10b) hdp W (fun d hd env M' he => by
    obtain ⟨o7, o13, o14, o15, rfl, rfl⟩ := he
    obtain ⟨p13, p14, p15, e⟩ := s10b_ok (hW d hd) (M := M') (o0 := o0) (o1 := o1) (o2 := o2) (o3 := o3) (o4 := o4) (o5 := some (.cell c)) (o6 := o6) (o8 := o8) (o9 := o9) (o10 := o10) (o11 := o11) (o12 := o12) (o13 := o13) (o14 := o14) (o15 := o15) (o16 := o16)
    exact ⟨_, _, _, rfl, e, _, _, _, _, rfl, rfl⟩) _ _ ⟨o7, o13, o14, o15, rfl, rfl⟩
  refine ⟨p7, p13, p14, p15, ?_⟩
  have hs : seqItm M' (.cell c) = some ⟨W, [(c, W)]⟩ := by
    unfold seqItm lstOf
    simp [hc]
    rfl
  have hq : sSeq (sVar 5) [o0, o1, o2, o3, o4, some (.cell c), o6, o7, o8, o9, o10, o11, o12, o13, o14, o15, o16] M' = .ok ⟨W, [(c, W)]⟩ M' := by
    show (match seqItm M' (.cell c) with
      | some it => Out.ok it M'
      | none => .bad) = _
    rw [hs]
  unfold S10 sFor
  rw [hq]
  exact e

def S9d : SS := (sSeq2 (sExpr (sMeth mAppend (sVar 11) (sCons (sBin .Add (sBin .Add (sIf (sB (sCmp .Gt (sArgs lenOp (sCons (sVar 11) sNil)) (sCon (.int 0)))) (sIdx (sVar 11) (sNeg (sCon (.int 1)))) (sCon (.int 1))) (sCon (.int 1))) (sArgs F_law_take (sCons (sVar 1) (sCons (sCon (.int 12)) sNil)))) sNil)))
 sSkip)
theorem s9d_ok {Y : Mem} {ds : List Int} (hl : ds.length ≤ 100) {a b : Int} {o0 o2 o3 o4 o5 o6 o7 o8 o9 o10 o12 o13 o14 o15 o16 : Option AV} : ∃ (z a' b' : Int), S9d [o0, some (.cell 0), o2, o3, o4, o5, o6, o7, o8, o9, o10, some (.cell (Y.length + 1)), o12, o13, o14, o15, o16] (St a b (Y ++ [some (.l (ds.map .int))])) = .ok (.next [o0, some (.cell 0), o2, o3, o4, o5, o6, o7, o8, o9, o10, some (.cell (Y.length + 1)), o12, o13, o14, o15, o16]) (St a' b' (Y ++ [some (.l ((ds ++ [z]).map .int))])) := by
  have hll : (ds.map D.int).length < 1000000 := by rw [List.length_map]; omega
  have ln : lenOp [.cell (Y.length + 1)] (St a b (Y ++ [some (.l (ds.map D.int))])) = .ok (.d (.int (ds.map D.int).length)) (St a b (Y ++ [some (.l (ds.map D.int))])) := len_c
  have gk : ∀ a b : Int, (cellOf? (St a b (Y ++ [some (.l (ds.map D.int))])) (.cell (Y.length + 1))).isSome = true := fun a b => gkc
  obtain ⟨t, a1, b1, t1, i0, i1⟩ := take_ok (m := 12) (a := a) (b := b) (Mt := Y ++ [some (.l (ds.map D.int))]) (by omega)
  by_cases hz : ds = []
  · subst hz
    refine ⟨1 + 1 + t, a1, b1, el_start ?_⟩
    have ma : ∀ {β : Type} {res : Out β} {k : AV → Mem → Out β}, k (.d .non) (St a1 b1 (Y ++ [some (.l [.int (1 + 1 + t)])])) = res → mK mAppend (.cell (Y.length + 1)) [.d (.int (1 + 1 + t))] (St a1 b1 (Y ++ [some (.l (List.map D.int []))])) k = res := fun h => mapp (xs := []) (by decide) h
    unfold S9d
    repeat' (first | (wtm_at "mpA") | (with_reducible apply gk_t (gk _ _)) | (with_reducible apply e_call ln) | (with_reducible apply e_call t1) | (with_reducible refine ma ?_) | (wtm_at "mp1"))
    rfl
  · obtain ⟨init, y, rfl⟩ := last_of8 hz
    refine ⟨y + 1 + t, a1, b1, el_start ?_⟩
    have n0 : (0 : Int) < (((init ++ [y]).map D.int).length : Nat) := by rw [List.length_map, List.length_append, List.length_singleton]; omega
    have il : idx (.cell (Y.length + 1)) (.d (.int (-1))) (St a b (Y ++ [some (.l ((init ++ [y]).map D.int))])) = .ok (.d (.int y)) (St a b (Y ++ [some (.l ((init ++ [y]).map D.int))])) := idx_lastC (M := St a b Y) (f := D.int)
    have ma : ∀ {β : Type} {res : Out β} {k : AV → Mem → Out β}, k (.d .non) (St a1 b1 (Y ++ [some (.l ((init ++ [y]).map D.int ++ [.int (y + 1 + t)]))])) = res → mK mAppend (.cell (Y.length + 1)) [.d (.int (y + 1 + t))] (St a1 b1 (Y ++ [some (.l ((init ++ [y]).map D.int))])) k = res := fun h => mapp hll h
    rw [List.map_append (l₁ := init ++ [y])]
    unfold S9d
    repeat' (first | (wtm_at "mpA") | (with_reducible apply gk_t (gk _ _)) | (with_reducible apply e_call ln) | (with_reducible apply p_idx il) | (with_reducible apply e_call t1) | (with_reducible refine ma ?_) | (wtm_at "mp1"))
    rfl
theorem s9l_ok {Y : Mem} {a b : Int} {n : Nat} (hn : n ≤ 10) {o0 o2 o3 o4 o5 o6 o7 o8 o9 o10 o12 o13 o14 o15 o16 : Option AV} : ∃ (ds : List Int) (p12 : Option AV) (a' b' : Int), ds.length = n ∧ forL S9d (.name 12) [] (rngL 0 n) [o0, some (.cell 0), o2, o3, o4, o5, o6, o7, o8, o9, o10, some (.cell (Y.length + 1)), o12, o13, o14, o15, o16] (St a b (Y ++ [some (.l [])])) = .ok (.next [o0, some (.cell 0), o2, o3, o4, o5, o6, o7, o8, o9, o10, some (.cell (Y.length + 1)), p12, o13, o14, o15, o16]) (St a' b' (Y ++ [some (.l (ds.map .int))])) := by
  obtain ⟨env', M', e, ds, p12, a', b', h1, rfl, rfl⟩ := for_pre (φ := fun k : Nat => D.int (0 + (k : Int))) (tg := .name 12) (body := S9d) (I := fun (d : List Nat) env M => ∃ (ds : List Int) (o12 : Option AV) (a b : Int), ds.length = d.length ∧ env = [o0, some (.cell 0), o2, o3, o4, o5, o6, o7, o8, o9, o10, some (.cell (Y.length + 1)), o12, o13, o14, o15, o16] ∧ M = St a b (Y ++ [some (.l (ds.map .int))])) (List.range n) [] (fun d k r hk env M h => by
      obtain ⟨ds, o12, a, b, h1, rfl, rfl⟩ := h
      have hdl : d.length ≤ n := by
        have := congrArg List.length hk
        simp at this
        omega
      obtain ⟨z, a', b', e⟩ := s9d_ok (Y := Y) (ds := ds) (by omega) (a := a) (b := b) (o0 := o0) (o2 := o2) (o3 := o3) (o4 := o4) (o5 := o5) (o6 := o6) (o7 := o7) (o8 := o8) (o9 := o9) (o10 := o10) (o12 := some (.d (.int (0 + (k : Int))))) (o13 := o13) (o14 := o14) (o15 := o15) (o16 := o16)
      exact ⟨_, _, _, rfl, e, ds ++ [z], _, a', b', by rw [List.length_append, List.length_append, h1]; rfl, rfl, rfl⟩) _ _ ⟨[], o12, a, b, rfl, rfl, rfl⟩
  exact ⟨ds, p12, a', b', by rw [h1]; simp, e⟩

theorem idx5 {d t : Int} (h : 0 ≤ t ∧ t < 5) : ∃ y : Int, ∀ M, idx (.fr [.int 1, .int (-1), .int 2, .int d, .int 3]) (.d (.int t)) M = .ok (.d (.int y)) M := by
  have : t = 0 ∨ t = 1 ∨ t = 2 ∨ t = 3 ∨ t = 4 := by omega
  rcases this with rfl | rfl | rfl | rfl | rfl
  · exact ⟨1, fun _ => rfl⟩
  · exact ⟨-1, fun _ => rfl⟩
  · exact ⟨2, fun _ => rfl⟩
  · exact ⟨d, fun _ => rfl⟩
  · exact ⟨3, fun _ => rfl⟩
theorem s9b_ok {Y : Mem} {j : Nat} {W : List D} {y : Int} {q : List Int} (hq : q.length ≤ 1000) (hY : Y[j]? = some (some (.l W))) (hW : ∀ w ∈ W, RowOk w) (hWl : W.length ≤ 1000) {a b : Int} {o0 o2 o4 o6 o7 o8 o9 o10 o11 o12 o13 o14 o15 o16 : Option AV} :
    ∃ (W' : List D) (Y' : Mem) (p10 p11 p12 : Option AV) (a' b' : Int), S9b [o0, some (.cell 0), o2, some (.d (ti (y :: q))), o4, some (.cell (j + 1)), o6, o7, o8, o9, o10, o11, o12, o13, o14, o15, o16] (St a b Y) = .ok (.next [o0, some (.cell 0), o2, some (.d (ti (y :: q))), o4, some (.cell (j + 1)), o6, o7, o8, o9, p10, p11, p12, o13, o14, o15, o16]) (St a' b' Y') ∧ Y'[j]? = some (some (.l W')) ∧ (∀ w ∈ W', RowOk w) ∧ W'.length = W.length + 2 := by
  have hlm : ((y :: q).map D.int).length ≤ 1000000 := by rw [List.length_map, List.length_cons]; omega
  have hlc : (((y :: q).map D.int).length : Int) = q.length + 1 := by simp
  have hj : j < Y.length := (List.getElem?_eq_some_iff.mp hY).1
  obtain ⟨i, a1, b1, t1, i0, i1⟩ := take_ok (m := ((y :: q).map D.int).length) (a := a) (b := b) (Mt := Y) (by rw [hlc]; omega)
  obtain ⟨t, a2, b2, t2, j0, j1⟩ := take_ok (m := 5) (a := a1) (b := b1) (Mt := Y) (by omega)
  obtain ⟨u, hu⟩ := idx5 (d := y) ⟨j0, j1⟩
  rw [hlc] at i1
  have g1 : ∀ M, idx (.d (ti (y :: q))) (.d (.int i)) M = .ok (.d (.int ((y :: q).getD i.toNat 0))) M := fun M => idx_tiI i0 (by rw [List.length_cons]; push_cast; exact i1)
  have c1 : ∀ M, cutop (.d (ti (y :: q))) none (some i) M = .ok (.d (ti ((y :: q).take i.toNat))) M := fun M => by
    show Out.ok (AV.d (.tup (cutG ((y :: q).map D.int) none (some i)))) M = _
    rw [cutG_map, show i = ((i.toNat : Nat) : Int) by omega, cutG_0n, Int.toNat_natCast]
  have c2 : ∀ M, cutop (.d (ti (y :: q))) (some (i + 1)) none M = .ok (.d (ti ((y :: q).drop (i.toNat + 1)))) M := fun M => by
    show Out.ok (AV.d (.tup (cutG ((y :: q).map D.int) (some (i + 1)) none))) M = _
    rw [cutG_map, show i + 1 = ((i.toNat + 1 : Nat) : Int) by omega, cutG_n0]
  obtain ⟨z, hz⟩ : ∃ z, z = (y :: q).getD i.toNat 0 + u := ⟨_, rfl⟩
  have q1 : ∀ M, binop .Add (opnd M (.d (ti ((y :: q).take i.toNat)))) (opnd M (.d (.tup [.int z]))) M = .ok (.d (ti ((y :: q).take i.toNat ++ [z]))) M := fun M => by
    rw [add_tup (by rw [List.length_map, List.length_take]; simp; omega), show [D.int z] = [z].map D.int from rfl, ← List.map_append]
  have q2 : ∀ M, binop .Add (opnd M (.d (ti ((y :: q).take i.toNat ++ [z])))) (opnd M (.d (ti ((y :: q).drop (i.toNat + 1))))) M = .ok (.d (ti (((y :: q).take i.toNat ++ [z]) ++ (y :: q).drop (i.toNat + 1)))) M := fun M => by
    rw [add_tup (by rw [List.length_map, List.length_map, List.length_append, List.length_take, List.length_drop]; simp; omega), ← List.map_append]
  obtain ⟨R1, hR1⟩ : ∃ R1, R1 = ((y :: q).take i.toNat ++ [z]) ++ (y :: q).drop (i.toNat + 1) := ⟨_, rfl⟩
  have hR1l : R1.length ≤ 1100 := by rw [hR1, List.length_append, List.length_append, List.length_take, List.length_drop, List.length_singleton, List.length_cons]; omega
  rw [← hR1] at q2
  obtain ⟨s, a3, b3, t3, k0, k1⟩ := take_ok (m := 4) (a := a2) (b := b2) (Mt := Y.set j (some (.l (W ++ [ti R1]))) ++ [some (.l [])]) (by omega)
  obtain ⟨ds, p12, a4, b4, hds, hin⟩ := s9l_ok (Y := Y.set j (some (.l (W ++ [ti R1])))) (a := a3) (b := b3) (n := (1 + s).toNat) (by omega) (o0 := o0) (o2 := o2) (o3 := some (.d (ti (y :: q)))) (o4 := o4) (o5 := some (.cell (j + 1))) (o6 := o6) (o7 := o7) (o8 := o8) (o9 := o9) (o10 := some (.d (.int i))) (o12 := o12) (o13 := o13) (o14 := o14) (o15 := o15) (o16 := o16)
  have e1 : (St a2 b2 Y)[j + 1]? = some (some (.l W)) := hY
  have hY1 : (Y.set j (some (.l (W ++ [ti R1]))) ++ [some (.l (ds.map D.int))])[j]? = some (some (.l (W ++ [ti R1]))) := by
    rw [List.getElem?_append_left (by rw [List.length_set]; exact hj), List.getElem?_set_self hj]
  have e2 : (St a4 b4 (Y.set j (some (.l (W ++ [ti R1]))) ++ [some (.l (ds.map D.int))]))[j + 1]? = some (some (.l (W ++ [ti R1]))) := hY1
  have hWd : (W ++ [ti R1]).length < 1000000 := by rw [List.length_append, List.length_singleton]; omega
  have tc : tupleOp [.cell ((Y.set j (some (.l (W ++ [ti R1])))).length + 1)] (St a4 b4 (Y.set j (some (.l (W ++ [ti R1]))) ++ [some (.l (ds.map D.int))])) = .ok (.d (ti ds)) (St a4 b4 (Y.set j (some (.l (W ++ [ti R1]))) ++ [some (.l (ds.map D.int))])) := tup_cell (M := St a4 b4 (Y.set j (some (.l (W ++ [ti R1])))))
  have gk1 : (cellOf? (St a1 b1 Y) (.cell (j + 1))).isSome = true := by unfold cellOf?; dsimp only; rw [show (St a1 b1 Y)[j + 1]? = some (some (.l W)) from hY]; rfl
  have gk2 : (cellOf? (St a4 b4 (Y.set j (some (.l (W ++ [ti R1]))) ++ [some (.l (ds.map D.int))])) (.cell (j + 1))).isSome = true := by unfold cellOf?; dsimp only; rw [e2]; rfl
  refine ⟨W ++ [ti R1] ++ [ti ds], (Y.set j (some (MC.l (W ++ [ti R1]))) ++ [some (MC.l (ds.map D.int))]).set j (some (MC.l (W ++ [ti R1] ++ [ti ds]))), some (.d (.int i)), some (.cell ((Y.set j (some (MC.l (W ++ [ti R1])))).length + 1)), p12, a4, b4, el_start ?_, ?_, ?_, ?_⟩
  · unfold S9b
    repeat' (first | (wtm_at "mpA") | (with_reducible apply gk_t gk1) | (with_reducible apply e_call t1) | (with_reducible apply e_call t2) | (with_reducible apply p_idx (hu _)) | (with_reducible apply p_idx (g1 _)) | (with_reducible apply p_idx idx_head) | (with_reducible apply p_cut (c1 _)) | (with_reducible apply p_cut (c2 _)) | (wtm_at "mp1"))
    rw [← hz]
    repeat' (first | (wtm_at "mpA") | (with_reducible apply p_bin (q1 _)) | (with_reducible apply p_cut (c2 _)) | (with_reducible apply p_bin (q2 _)) | (with_reducible refine m_app e1 (by omega) ?_) | (wtm_at "mp1"))
    have t3' : F_law_take [.cell 0, .d (.int 4)] (List.set (St a2 b2 Y) (j + 1) (some (MC.l (W ++ [ti R1]))) ++ [some (MC.l [])]) = .ok (.d (.int s)) (St a3 b3 (Y.set j (some (.l (W ++ [ti R1]))) ++ [some (.l [])])) := t3
    repeat' (first | (wtm_at "mpA") | (with_reducible apply e_call t3') | (wtm_at "mp0"))
    refine e_next hin ?_
    repeat' (first | (wtm_at "mpA") | (with_reducible apply gk_t gk2) | (with_reducible apply e_call tc) | (with_reducible refine m_app e2 hWd ?_) | (wtm_at "mp1"))
    rfl
  · exact List.getElem?_set_self (a := some (MC.l (W ++ [ti R1] ++ [ti ds]))) (by rw [List.length_append, List.length_set]; omega)
  · intro w hw
    rcases List.mem_append.mp hw with hw | hw
    · rcases List.mem_append.mp hw with hw | hw
      · exact hW w hw
      · rw [List.mem_singleton.mp hw]; exact rok_any (by omega)
    · rw [List.mem_singleton.mp hw]; exact rok_any (by omega)
  · rw [List.length_append, List.length_append]; rfl

theorem s9_ok {Y : Mem} {j : Nat} {W : List D} {y : Int} {q : List Int} (hq : q.length ≤ 1000) (hY : Y[j]? = some (some (.l W))) (hW : ∀ w ∈ W, RowOk w) (hWl : W.length ≤ 100) {a b : Int} {o0 o2 o4 o6 o7 o8 o9 o10 o11 o12 o13 o14 o15 o16 : Option AV} :
    ∃ (W' : List D) (Y' : Mem) (p6 p10 p11 p12 : Option AV) (a' b' : Int), S9 [o0, some (.cell 0), o2, some (.d (ti (y :: q))), o4, some (.cell (j + 1)), o6, o7, o8, o9, o10, o11, o12, o13, o14, o15, o16] (St a b Y) = .ok (.next [o0, some (.cell 0), o2, some (.d (ti (y :: q))), o4, some (.cell (j + 1)), p6, o7, o8, o9, p10, p11, p12, o13, o14, o15, o16]) (St a' b' Y') ∧ Y'[j]? = some (some (.l W')) ∧ (∀ w ∈ W', RowOk w) := by
  obtain ⟨env', M', e, W', Y', p6, p10, p11, p12, a', b', h1, h2, h3, rfl, rfl⟩ := for_pre (φ := fun k : Nat => D.int (0 + (k : Int))) (tg := .name 6) (body := S9b) (I := fun (d : List Nat) env M => ∃ (W : List D) (Y : Mem) (o6 o10 o11 o12 : Option AV) (a b : Int), Y[j]? = some (some (.l W)) ∧ (∀ w ∈ W, RowOk w) ∧ W.length ≤ 100 + 2 * d.length ∧ env = [o0, some (.cell 0), o2, some (.d (ti (y :: q))), o4, some (.cell (j + 1)), o6, o7, o8, o9, o10, o11, o12, o13, o14, o15, o16] ∧ M = St a b Y) (List.range 4) [] (fun d k r hk env M h => by
      obtain ⟨W, Y, o6, o10, o11, o12, a, b, h1, h2, h3, rfl, rfl⟩ := h
      have hdl : d.length ≤ 4 := by
        have := congrArg List.length hk
        simp at this
        omega
      obtain ⟨W', Y', p10, p11, p12, a', b', e, g1, g2, g3⟩ := s9b_ok hq h1 h2 (by omega) (a := a) (b := b) (y := y) (o0 := o0) (o2 := o2) (o4 := o4) (o6 := some (.d (.int (0 + (k : Int))))) (o7 := o7) (o8 := o8) (o9 := o9) (o10 := o10) (o11 := o11) (o12 := o12) (o13 := o13) (o14 := o14) (o15 := o15) (o16 := o16)
      exact ⟨_, _, _, rfl, e, W', Y', _, _, _, _, a', b', g1, g2, by rw [List.length_append, List.length_singleton]; omega, rfl, rfl⟩) _ _ ⟨W, Y, o6, o10, o11, o12, a, b, hY, hW, by simpa using hWl, rfl, rfl⟩
  refine ⟨W', Y', p6, p10, p11, p12, a', b', el_start ?_, h1, h2⟩
  unfold S9
  repeat' (first | (wtm_at "mpA") | (wtm_at "mp0"))
  refine e_next e ?_
  rfl

theorem law_true : ∀ ns : List Int, ns.length ≤ 63 → ∃ M, Flaw [.scr ns] [] = .ok (.d (.bl true)) M := by
  intro ns _
  obtain ⟨a1, b1, e1⟩ := s1_ok ns
  obtain ⟨ps, a2, b2, e2, hc, ho, hl⟩ := s2_ok (a := a1) (b := b1) (o0 := some (.scr ns)) (o2 := none) (o3 := none) (o4 := none) (o5 := none) (o6 := none) (o7 := none) (o8 := none) (o9 := none) (o10 := none) (o11 := none) (o12 := none) (o13 := none) (o14 := none) (o15 := none) (o16 := none)
  obtain ⟨r, f1, f2⟩ := fromL_len ps
  have hc2 : clsB (prodP ps) r = true := by unfold clsP at hc; rw [f1] at hc; exact hc
  rw [f1] at e2
  have hr : r.length ≤ 10 := by omega
  have e3 := s3_ok hc2 hr (M := St a2 b2 []) (o0 := some (.scr ns)) (o1 := some (.cell 0)) (o3 := none) (o4 := none) (o5 := none) (o6 := none) (o7 := none) (o8 := none) (o9 := none) (o10 := none) (o11 := none) (o12 := none) (o13 := none) (o14 := none) (o15 := none) (o16 := none)
  have e4 := s4_ok hc2 hr (M := St a2 b2 []) (o0 := some (.scr ns)) (o1 := some (.cell 0)) (o4 := none) (o5 := none) (o6 := none) (o7 := none) (o8 := none) (o9 := none) (o10 := none) (o11 := none) (o12 := none) (o13 := none) (o14 := none) (o15 := none) (o16 := none)
  have e5 := s5_ok hc2 hr (M := St a2 b2 []) (o0 := some (.scr ns)) (o1 := some (.cell 0)) (o3 := some (.d (ti (lotP (prodP ps) r)))) (o4 := none) (o5 := none) (o6 := none) (o7 := none) (o8 := none) (o9 := none) (o10 := none) (o11 := none) (o12 := none) (o13 := none) (o14 := none) (o15 := none) (o16 := none)
  obtain ⟨p9, p10, X, e6⟩ := s6_ok hc2 hr (a := a2) (b := b2) (o0 := some (.scr ns)) (o1 := some (.cell 0)) (o2 := some (.d (ti (prodP ps :: r)))) (o5 := none) (o6 := none) (o7 := none) (o8 := none) (o9 := none) (o10 := none) (o11 := none) (o12 := none) (o13 := none) (o14 := none) (o15 := none)
  have hll := lot_len (prodP ps) r
  obtain ⟨V, e7, hV, hVl⟩ := s7_ok (M := St a2 b2 X) (L := lotP (prodP ps) r) (by omega) (o0 := some (.scr ns)) (o1 := some (.cell 0)) (o2 := some (.d (ti (prodP ps :: r)))) (o4 := some (.d (.int (condI (prodP ps :: r) (stepsL (prodP ps) r))))) (o5 := none) (o6 := none) (o7 := none) (o8 := none) (o9 := p9) (o10 := p10) (o11 := none) (o12 := none) (o13 := none) (o14 := none) (o15 := none) (o16 := none)
  obtain ⟨q, hq⟩ := lot_head (prodP ps) r
  have hql : q.length ≤ 1000 := by rw [hq, List.length_cons] at hll; omega
  obtain ⟨W, e8, hW, hWl⟩ := s8_ok (M := St a2 b2 X) (V := V) (y := prodP ps) hql ⟨hVl, hV⟩ (o0 := some (.scr ns)) (o1 := some (.cell 0)) (o2 := some (.d (ti (prodP ps :: r)))) (o4 := some (.d (.int (condI (prodP ps :: r) (stepsL (prodP ps) r))))) (o6 := none) (o7 := none) (o8 := none) (o9 := p9) (o10 := p10) (o11 := none) (o12 := none) (o13 := none) (o14 := none) (o15 := none) (o16 := none)
  obtain ⟨W', Y', p6, q10, q11, q12, a9, b9, e9, h9, hW'⟩ := s9_ok (Y := X ++ [some (.l V)] ++ [some (.l W)]) (j := X.length + 1) (W := W) (y := prodP ps) hql (by simp) hW (by omega) (a := a2) (b := b2) (o0 := some (.scr ns)) (o2 := some (.d (ti (prodP ps :: r)))) (o4 := some (.d (.int (condI (prodP ps :: r) (stepsL (prodP ps) r))))) (o6 := none) (o7 := none) (o8 := none) (o9 := p9) (o10 := p10) (o11 := none) (o12 := none) (o13 := none) (o14 := none) (o15 := none) (o16 := none)
  obtain ⟨p7, p13, p14, p15, e10⟩ := s10_ok (M := St a9 b9 Y') (c := X.length + 1 + 1) (W := W') h9 hW' (o0 := some (.scr ns)) (o1 := some (.cell 0)) (o2 := some (.d (ti (prodP ps :: r)))) (o3 := some (.d (ti (prodP ps :: q)))) (o4 := some (.d (.int (condI (prodP ps :: r) (stepsL (prodP ps) r))))) (o6 := p6) (o7 := none) (o8 := none) (o9 := p9) (o10 := q10) (o11 := q11) (o12 := q12) (o13 := none) (o14 := none) (o15 := none) (o16 := none)
  obtain ⟨p8, e11⟩ := s11_ok (M := St a9 b9 Y') (o0 := some (.scr ns)) (o1 := some (.cell 0)) (o2 := some (.d (ti (prodP ps :: r)))) (o3 := some (.d (ti (prodP ps :: q)))) (o4 := some (.d (.int (condI (prodP ps :: r) (stepsL (prodP ps) r))))) (o5 := some (.cell (X.length + 1 + 1))) (o6 := p6) (o7 := p7) (o8 := none) (o9 := p9) (o10 := q10) (o11 := q11) (o12 := q12) (o13 := p13) (o14 := p14) (o15 := p15) (o16 := none)
  rw [hq] at e3 e4 e5 e6 e7
  refine ⟨[], ?_⟩
  unfold Flaw
  refine e_fn rfl ?_
  rw [Tlaw_eq]
  refine e_stmt (e1 : S1 _ [] = _) ?_
  refine e_stmt e2 ?_
  refine e_stmt e3 ?_
  refine e_stmt e4 ?_
  refine e_stmt e5 ?_
  refine e_stmt e6 ?_
  refine e_stmt e7 ?_
  refine e_stmt e8 ?_
  refine e_stmt e9 ?_
  refine e_stmt e10 ?_
  refine e_stmt e11 ?_
  unfold S12
  repeat' (first | (wtm_at "mpA") | (wtm_at "mp1"))
  rfl

theorem all_mk {w : World} {K : PySem.W.Frag} {h : Heap} {mg : Str → Option Value} {fa : Addr} (X : K.In h) (G : h.Ns mainGlobals mg) (hfa : mg "law" = some (.ref fa))
    {tkMOST_CONDUCTOR : Tok}
    {tkMOST_FIRST : Tok}
    {tkMOST_ITEM : Tok}
    {f0 : Addr} {oc0 kV0 dc0 pm0 cd0 ct0 : Value} {od0 an0 : Option Addr} {sl0 : Array (Option Value)}
    {f1 : Addr} {oc1 kV1 dc1 pm1 cd1 ct1 : Value} {od1 an1 : Option Addr} {sl1 : Array (Option Value)}
    {f2 : Addr} {oc2 kV2 dc2 pm2 cd2 ct2 : Value} {od2 an2 : Option Addr} {sl2 : Array (Option Value)}
    {f3 : Addr} {oc3 kV3 dc3 pm3 cd3 ct3 : Value} {od3 an3 : Option Addr} {sl3 : Array (Option Value)}
    {f4 : Addr} {oc4 kV4 dc4 pm4 cd4 ct4 : Value} {od4 an4 : Option Addr} {sl4 : Array (Option Value)}
    {f5 : Addr} {oc5 kV5 dc5 pm5 cd5 ct5 : Value} {od5 an5 : Option Addr} {sl5 : Array (Option Value)}
    {f6 : Addr} {oc6 kV6 dc6 pm6 cd6 ct6 : Value} {od6 an6 : Option Addr} {sl6 : Array (Option Value)}
    {f7 : Addr} {oc7 kV7 dc7 pm7 cd7 ct7 : Value} {od7 an7 : Option Addr} {sl7 : Array (Option Value)}
    {f8 : Addr} {oc8 kV8 dc8 pm8 cd8 ct8 : Value} {od8 an8 : Option Addr} {sl8 : Array (Option Value)}
    {f9 : Addr} {oc9 kV9 dc9 pm9 cd9 ct9 : Value} {od9 an9 : Option Addr} {sl9 : Array (Option Value)}
    {f10 : Addr} {oc10 kV10 dc10 pm10 cd10 ct10 : Value} {od10 an10 : Option Addr} {sl10 : Array (Option Value)}
    {f11 : Addr} {oc11 kV11 dc11 pm11 cd11 ct11 : Value} {od11 an11 : Option Addr} {sl11 : Array (Option Value)}
    {f12 : Addr} {oc12 kV12 dc12 pm12 cd12 ct12 : Value} {od12 an12 : Option Addr} {sl12 : Array (Option Value)}
    {f13 : Addr} {oc13 kV13 dc13 pm13 cd13 ct13 : Value} {od13 an13 : Option Addr} {sl13 : Array (Option Value)}
    {f14 : Addr} {oc14 kV14 dc14 pm14 cd14 ct14 : Value} {od14 an14 : Option Addr} {sl14 : Array (Option Value)}
    {f15 : Addr} {oc15 kV15 dc15 pm15 cd15 ct15 : Value} {od15 an15 : Option Addr} {sl15 : Array (Option Value)}
    {f16 : Addr} {oc16 kV16 dc16 pm16 cd16 ct16 : Value} {od16 an16 : Option Addr} {sl16 : Array (Option Value)}
    {f17 : Addr} {oc17 kV17 dc17 pm17 cd17 ct17 : Value} {od17 an17 : Option Addr} {sl17 : Array (Option Value)}
    {f18 : Addr} {oc18 kV18 dc18 pm18 cd18 ct18 : Value} {od18 an18 : Option Addr} {sl18 : Array (Option Value)}
    {f19 : Addr} {oc19 kV19 dc19 pm19 cd19 ct19 : Value} {od19 an19 : Option Addr} {sl19 : Array (Option Value)}
    {f20 : Addr} {oc20 kV20 dc20 pm20 cd20 ct20 : Value} {od20 an20 : Option Addr} {sl20 : Array (Option Value)}
    {f21 : Addr} {oc21 kV21 dc21 pm21 cd21 ct21 : Value} {od21 an21 : Option Addr} {sl21 : Array (Option Value)}
    {f22 : Addr} {oc22 kV22 dc22 pm22 cd22 ct22 : Value} {od22 an22 : Option Addr} {sl22 : Array (Option Value)}
    {f23 : Addr} {oc23 kV23 dc23 pm23 cd23 ct23 : Value} {od23 an23 : Option Addr} {sl23 : Array (Option Value)}
    {f24 : Addr} {oc24 kV24 dc24 pm24 cd24 ct24 : Value} {od24 an24 : Option Addr} {sl24 : Array (Option Value)}
    {f25 : Addr} {oc25 kV25 dc25 pm25 cd25 ct25 : Value} {od25 an25 : Option Addr} {sl25 : Array (Option Value)}
    {f26 : Addr} {oc26 kV26 dc26 pm26 cd26 ct26 : Value} {od26 an26 : Option Addr} {sl26 : Array (Option Value)}
    {f27 : Addr} {oc27 kV27 dc27 pm27 cd27 ct27 : Value} {od27 an27 : Option Addr} {sl27 : Array (Option Value)}
    {f28 : Addr} {oc28 kV28 dc28 pm28 cd28 ct28 : Value} {od28 an28 : Option Addr} {sl28 : Array (Option Value)}
    {f29 : Addr} {oc29 kV29 dc29 pm29 cd29 ct29 : Value} {od29 an29 : Option Addr} {sl29 : Array (Option Value)}
    {f30 : Addr} {oc30 kV30 dc30 pm30 cd30 ct30 : Value} {od30 an30 : Option Addr} {sl30 : Array (Option Value)}
    {f31 : Addr} {oc31 kV31 dc31 pm31 cd31 ct31 : Value} {od31 an31 : Option Addr} {sl31 : Array (Option Value)}
    {CM CR fR CF cda cc NR : Addr} {nmR qR qn fileR : Str} {tfR : Tok} {bsR : List Value} {snR : List Str} {subR : List Value} {abR : Bool} {colR : Option Bool} {ddR : Option Addr} {mR0 mR1 mR2 mR3 mR5 : Option Value} {ocR dcR pmR ctR cclR clR : Value} {odR anR cddR cldR : Option Addr} {oslR ccsR cslR : Array (Option Value)} {vsR : Array Value}
    (z_abs : PySem.W.nsIn K mainGlobals "abs" = some none)
    (z_all : PySem.W.nsIn K mainGlobals "all" = some none)
    (z_any : PySem.W.nsIn K mainGlobals "any" = some none)
    (z_bool : PySem.W.nsIn K mainGlobals "bool" = some none)
    (z_int : PySem.W.nsIn K mainGlobals "int" = some none)
    (z_isinstance : PySem.W.nsIn K mainGlobals "isinstance" = some none)
    (z_len : PySem.W.nsIn K mainGlobals "len" = some none)
    (z_list : PySem.W.nsIn K mainGlobals "list" = some none)
    (z_range : PySem.W.nsIn K mainGlobals "range" = some none)
    (z_str : PySem.W.nsIn K mainGlobals "str" = some none)
    (z_sum : PySem.W.nsIn K mainGlobals "sum" = some none)
    (z_tuple : PySem.W.nsIn K mainGlobals "tuple" = some none)
    (z_zip : PySem.W.nsIn K mainGlobals "zip" = some none)
    (y_MOST_CONDUCTOR : PySem.W.nsIn K mainGlobals "MOST_CONDUCTOR" = some (some (.int 3000 tkMOST_CONDUCTOR)))
    (y_MOST_FIRST : PySem.W.nsIn K mainGlobals "MOST_FIRST" = some (some (.int 60 tkMOST_FIRST)))
    (y_MOST_ITEM : PySem.W.nsIn K mainGlobals "MOST_ITEM" = some (some (.int 300 tkMOST_ITEM)))
    (a0 : PySem.W.nsIn K mainGlobals "is_integer" = some (some (.ref f0)))
    (l0 : K.lookup f0 = some ⟨oc0, od0, .func (PySem.W.fnOf "is_integer" "is_integer" (defArgs stis_integer) (defBody stis_integer) (defScope stis_integer) .none kV0 dc0 pm0 an0 cd0 ct0), sl0⟩)
    (c0 : PySem.W.codeIn K cd0 "is_integer" = true)
    (k0 : PySem.W.keepIn K (.ref f0) = true)
    (a1 : PySem.W.nsIn K mainGlobals "greatest_common" = some (some (.ref f1)))
    (l1 : K.lookup f1 = some ⟨oc1, od1, .func (PySem.W.fnOf "greatest_common" "greatest_common" (defArgs stgreatest_common) (defBody stgreatest_common) (defScope stgreatest_common) .none kV1 dc1 pm1 an1 cd1 ct1), sl1⟩)
    (c1 : PySem.W.codeIn K cd1 "greatest_common" = true)
    (k1 : PySem.W.keepIn K (.ref f1) = true)
    (a2 : PySem.W.nsIn K mainGlobals "steps_of" = some (some (.ref f2)))
    (l2 : K.lookup f2 = some ⟨oc2, od2, .func (PySem.W.fnOf "steps_of" "steps_of" (defArgs ststeps_of) (defBody ststeps_of) (defScope ststeps_of) .none kV2 dc2 pm2 an2 cd2 ct2), sl2⟩)
    (c2 : PySem.W.codeIn K cd2 "steps_of" = true)
    (k2 : PySem.W.keepIn K (.ref f2) = true)
    (a3 : PySem.W.nsIn K mainGlobals "conductor_of" = some (some (.ref f3)))
    (l3 : K.lookup f3 = some ⟨oc3, od3, .func (PySem.W.fnOf "conductor_of" "conductor_of" (defArgs stconductor_of) (defBody stconductor_of) (defScope stconductor_of) .none kV3 dc3 pm3 an3 cd3 ct3), sl3⟩)
    (c3 : PySem.W.codeIn K cd3 "conductor_of" = true)
    (k3 : PySem.W.keepIn K (.ref f3) = true)
    (a4 : PySem.W.nsIn K mainGlobals "are_integers" = some (some (.ref f4)))
    (l4 : K.lookup f4 = some ⟨oc4, od4, .func (PySem.W.fnOf "are_integers" "are_integers" (defArgs stare_integers) (defBody stare_integers) (defScope stare_integers) .none kV4 dc4 pm4 an4 cd4 ct4), sl4⟩)
    (c4 : PySem.W.codeIn K cd4 "are_integers" = true)
    (k4 : PySem.W.keepIn K (.ref f4) = true)
    (a5 : PySem.W.nsIn K mainGlobals "is_class" = some (some (.ref f5)))
    (l5 : K.lookup f5 = some ⟨oc5, od5, .func (PySem.W.fnOf "is_class" "is_class" (defArgs stis_class) (defBody stis_class) (defScope stis_class) .none kV5 dc5 pm5 an5 cd5 ct5), sl5⟩)
    (c5 : PySem.W.codeIn K cd5 "is_class" = true)
    (k5 : PySem.W.keepIn K (.ref f5) = true)
    (a6 : PySem.W.nsIn K mainGlobals "check_class" = some (some (.ref f6)))
    (l6 : K.lookup f6 = some ⟨oc6, od6, .func (PySem.W.fnOf "check_class" "check_class" (defArgs stcheck_class) (defBody stcheck_class) (defScope stcheck_class) .none kV6 dc6 pm6 an6 cd6 ct6), sl6⟩)
    (c6 : PySem.W.codeIn K cd6 "check_class" = true)
    (k6 : PySem.W.keepIn K (.ref f6) = true)
    (a7 : PySem.W.nsIn K mainGlobals "lot_from" = some (some (.ref f7)))
    (l7 : K.lookup f7 = some ⟨oc7, od7, .func (PySem.W.fnOf "lot_from" "lot_from" (defArgs stlot_from) (defBody stlot_from) (defScope stlot_from) .none kV7 dc7 pm7 an7 cd7 ct7), sl7⟩)
    (c7 : PySem.W.codeIn K cd7 "lot_from" = true)
    (k7 : PySem.W.keepIn K (.ref f7) = true)
    (a8 : PySem.W.nsIn K mainGlobals "lot_of_class" = some (some (.ref f8)))
    (l8 : K.lookup f8 = some ⟨oc8, od8, .func (PySem.W.fnOf "lot_of_class" "lot_of_class" (defArgs stlot_of_class) (defBody stlot_of_class) (defScope stlot_of_class) .none kV8 dc8 pm8 an8 cd8 ct8), sl8⟩)
    (c8 : PySem.W.codeIn K cd8 "lot_of_class" = true)
    (k8 : PySem.W.keepIn K (.ref f8) = true)
    (a9 : PySem.W.nsIn K mainGlobals "is_generators" = some (some (.ref f9)))
    (l9 : K.lookup f9 = some ⟨oc9, od9, .func (PySem.W.fnOf "is_generators" "is_generators" (defArgs stis_generators) (defBody stis_generators) (defScope stis_generators) .none kV9 dc9 pm9 an9 cd9 ct9), sl9⟩)
    (c9 : PySem.W.codeIn K cd9 "is_generators" = true)
    (k9 : PySem.W.keepIn K (.ref f9) = true)
    (a10 : PySem.W.nsIn K mainGlobals "broken_generator" = some (some (.ref f10)))
    (l10 : K.lookup f10 = some ⟨oc10, od10, .func (PySem.W.fnOf "broken_generator" "broken_generator" (defArgs stbroken_generator) (defBody stbroken_generator) (defScope stbroken_generator) .none kV10 dc10 pm10 an10 cd10 ct10), sl10⟩)
    (c10 : PySem.W.codeIn K cd10 "broken_generator" = true)
    (k10 : PySem.W.keepIn K (.ref f10) = true)
    (a11 : PySem.W.nsIn K mainGlobals "class_of_lot" = some (some (.ref f11)))
    (l11 : K.lookup f11 = some ⟨oc11, od11, .func (PySem.W.fnOf "class_of_lot" "class_of_lot" (defArgs stclass_of_lot) (defBody stclass_of_lot) (defScope stclass_of_lot) .none kV11 dc11 pm11 an11 cd11 ct11), sl11⟩)
    (c11 : PySem.W.codeIn K cd11 "class_of_lot" = true)
    (k11 : PySem.W.keepIn K (.ref f11) = true)
    (a12 : PySem.W.nsIn K mainGlobals "_law_state" = some (some (.ref f12)))
    (l12 : K.lookup f12 = some ⟨oc12, od12, .func (PySem.W.fnOf "_law_state" "_law_state" (defArgs st_law_state) (defBody st_law_state) (defScope st_law_state) .none kV12 dc12 pm12 an12 cd12 ct12), sl12⟩)
    (c12 : PySem.W.codeIn K cd12 "_law_state" = true)
    (k12 : PySem.W.keepIn K (.ref f12) = true)
    (a13 : PySem.W.nsIn K mainGlobals "_law_take" = some (some (.ref f13)))
    (l13 : K.lookup f13 = some ⟨oc13, od13, .func (PySem.W.fnOf "_law_take" "_law_take" (defArgs st_law_take) (defBody st_law_take) (defScope st_law_take) .none kV13 dc13 pm13 an13 cd13 ct13), sl13⟩)
    (c13 : PySem.W.codeIn K cd13 "_law_take" = true)
    (k13 : PySem.W.keepIn K (.ref f13) = true)
    (a14 : PySem.W.nsIn K mainGlobals "_law_odd" = some (some (.ref f14)))
    (l14 : K.lookup f14 = some ⟨oc14, od14, .func (PySem.W.fnOf "_law_odd" "_law_odd" (defArgs st_law_odd) (defBody st_law_odd) (defScope st_law_odd) .none kV14 dc14 pm14 an14 cd14 ct14), sl14⟩)
    (c14 : PySem.W.codeIn K cd14 "_law_odd" = true)
    (k14 : PySem.W.keepIn K (.ref f14) = true)
    (a15 : PySem.W.nsIn K mainGlobals "_law_honest" = some (some (.ref f15)))
    (l15 : K.lookup f15 = some ⟨oc15, od15, .func (PySem.W.fnOf "_law_honest" "_law_honest" (defArgs st_law_honest) (defBody st_law_honest) (defScope st_law_honest) .none kV15 dc15 pm15 an15 cd15 ct15), sl15⟩)
    (c15 : PySem.W.codeIn K cd15 "_law_honest" = true)
    (k15 : PySem.W.keepIn K (.ref f15) = true)
    (a16 : PySem.W.nsIn K mainGlobals "_law_is_whole" = some (some (.ref f16)))
    (l16 : K.lookup f16 = some ⟨oc16, od16, .func (PySem.W.fnOf "_law_is_whole" "_law_is_whole" (defArgs st_law_is_whole) (defBody st_law_is_whole) (defScope st_law_is_whole) .none kV16 dc16 pm16 an16 cd16 ct16), sl16⟩)
    (c16 : PySem.W.codeIn K cd16 "_law_is_whole" = true)
    (k16 : PySem.W.keepIn K (.ref f16) = true)
    (a17 : PySem.W.nsIn K mainGlobals "_law_same" = some (some (.ref f17)))
    (l17 : K.lookup f17 = some ⟨oc17, od17, .func (PySem.W.fnOf "_law_same" "_law_same" (defArgs st_law_same) (defBody st_law_same) (defScope st_law_same) .none kV17 dc17 pm17 an17 cd17 ct17), sl17⟩)
    (c17 : PySem.W.codeIn K cd17 "_law_same" = true)
    (k17 : PySem.W.keepIn K (.ref f17) = true)
    (a18 : PySem.W.nsIn K mainGlobals "_law_common" = some (some (.ref f18)))
    (l18 : K.lookup f18 = some ⟨oc18, od18, .func (PySem.W.fnOf "_law_common" "_law_common" (defArgs st_law_common) (defBody st_law_common) (defScope st_law_common) .none kV18 dc18 pm18 an18 cd18 ct18), sl18⟩)
    (c18 : PySem.W.codeIn K cd18 "_law_common" = true)
    (k18 : PySem.W.keepIn K (.ref f18) = true)
    (a19 : PySem.W.nsIn K mainGlobals "_law_steps" = some (some (.ref f19)))
    (l19 : K.lookup f19 = some ⟨oc19, od19, .func (PySem.W.fnOf "_law_steps" "_law_steps" (defArgs st_law_steps) (defBody st_law_steps) (defScope st_law_steps) .none kV19 dc19 pm19 an19 cd19 ct19), sl19⟩)
    (c19 : PySem.W.codeIn K cd19 "_law_steps" = true)
    (k19 : PySem.W.keepIn K (.ref f19) = true)
    (a20 : PySem.W.nsIn K mainGlobals "_law_conductor" = some (some (.ref f20)))
    (l20 : K.lookup f20 = some ⟨oc20, od20, .func (PySem.W.fnOf "_law_conductor" "_law_conductor" (defArgs st_law_conductor) (defBody st_law_conductor) (defScope st_law_conductor) .none kV20 dc20 pm20 an20 cd20 ct20), sl20⟩)
    (c20 : PySem.W.codeIn K cd20 "_law_conductor" = true)
    (k20 : PySem.W.keepIn K (.ref f20) = true)
    (a21 : PySem.W.nsIn K mainGlobals "_law_is_class" = some (some (.ref f21)))
    (l21 : K.lookup f21 = some ⟨oc21, od21, .func (PySem.W.fnOf "_law_is_class" "_law_is_class" (defArgs st_law_is_class) (defBody st_law_is_class) (defScope st_law_is_class) .none kV21 dc21 pm21 an21 cd21 ct21), sl21⟩)
    (c21 : PySem.W.codeIn K cd21 "_law_is_class" = true)
    (k21 : PySem.W.keepIn K (.ref f21) = true)
    (a22 : PySem.W.nsIn K mainGlobals "_law_from_pairs" = some (some (.ref f22)))
    (l22 : K.lookup f22 = some ⟨oc22, od22, .func (PySem.W.fnOf "_law_from_pairs" "_law_from_pairs" (defArgs st_law_from_pairs) (defBody st_law_from_pairs) (defScope st_law_from_pairs) .none kV22 dc22 pm22 an22 cd22 ct22), sl22⟩)
    (c22 : PySem.W.codeIn K cd22 "_law_from_pairs" = true)
    (k22 : PySem.W.keepIn K (.ref f22) = true)
    (a23 : PySem.W.nsIn K mainGlobals "_law_drawn_pairs" = some (some (.ref f23)))
    (l23 : K.lookup f23 = some ⟨oc23, od23, .func (PySem.W.fnOf "_law_drawn_pairs" "_law_drawn_pairs" (defArgs st_law_drawn_pairs) (defBody st_law_drawn_pairs) (defScope st_law_drawn_pairs) .none kV23 dc23 pm23 an23 cd23 ct23), sl23⟩)
    (c23 : PySem.W.codeIn K cd23 "_law_drawn_pairs" = true)
    (k23 : PySem.W.keepIn K (.ref f23) = true)
    (a24 : PySem.W.nsIn K mainGlobals "_law_drawn_class" = some (some (.ref f24)))
    (l24 : K.lookup f24 = some ⟨oc24, od24, .func (PySem.W.fnOf "_law_drawn_class" "_law_drawn_class" (defArgs st_law_drawn_class) (defBody st_law_drawn_class) (defScope st_law_drawn_class) .none kV24 dc24 pm24 an24 cd24 ct24), sl24⟩)
    (c24 : PySem.W.codeIn K cd24 "_law_drawn_class" = true)
    (k24 : PySem.W.keepIn K (.ref f24) = true)
    (a25 : PySem.W.nsIn K mainGlobals "_law_lot" = some (some (.ref f25)))
    (l25 : K.lookup f25 = some ⟨oc25, od25, .func (PySem.W.fnOf "_law_lot" "_law_lot" (defArgs st_law_lot) (defBody st_law_lot) (defScope st_law_lot) .none kV25 dc25 pm25 an25 cd25 ct25), sl25⟩)
    (c25 : PySem.W.codeIn K cd25 "_law_lot" = true)
    (k25 : PySem.W.keepIn K (.ref f25) = true)
    (a26 : PySem.W.nsIn K mainGlobals "_law_sums" = some (some (.ref f26)))
    (l26 : K.lookup f26 = some ⟨oc26, od26, .func (PySem.W.fnOf "_law_sums" "_law_sums" (defArgs st_law_sums) (defBody st_law_sums) (defScope st_law_sums) .none kV26 dc26 pm26 an26 cd26 ct26), sl26⟩)
    (c26 : PySem.W.codeIn K cd26 "_law_sums" = true)
    (k26 : PySem.W.keepIn K (.ref f26) = true)
    (a27 : PySem.W.nsIn K mainGlobals "_law_told" = some (some (.ref f27)))
    (l27 : K.lookup f27 = some ⟨oc27, od27, .func (PySem.W.fnOf "_law_told" "_law_told" (defArgs st_law_told) (defBody st_law_told) (defScope st_law_told) .none kV27 dc27 pm27 an27 cd27 ct27), sl27⟩)
    (c27 : PySem.W.codeIn K cd27 "_law_told" = true)
    (k27 : PySem.W.keepIn K (.ref f27) = true)
    (a28 : PySem.W.nsIn K mainGlobals "_law_is_row" = some (some (.ref f28)))
    (l28 : K.lookup f28 = some ⟨oc28, od28, .func (PySem.W.fnOf "_law_is_row" "_law_is_row" (defArgs st_law_is_row) (defBody st_law_is_row) (defScope st_law_is_row) .none kV28 dc28 pm28 an28 cd28 ct28), sl28⟩)
    (c28 : PySem.W.codeIn K cd28 "_law_is_row" = true)
    (k28 : PySem.W.keepIn K (.ref f28) = true)
    (a29 : PySem.W.nsIn K mainGlobals "_law_broken" = some (some (.ref f29)))
    (l29 : K.lookup f29 = some ⟨oc29, od29, .func (PySem.W.fnOf "_law_broken" "_law_broken" (defArgs st_law_broken) (defBody st_law_broken) (defScope st_law_broken) .none kV29 dc29 pm29 an29 cd29 ct29), sl29⟩)
    (c29 : PySem.W.codeIn K cd29 "_law_broken" = true)
    (k29 : PySem.W.keepIn K (.ref f29) = true)
    (a30 : PySem.W.nsIn K mainGlobals "_law_class_of" = some (some (.ref f30)))
    (l30 : K.lookup f30 = some ⟨oc30, od30, .func (PySem.W.fnOf "_law_class_of" "_law_class_of" (defArgs st_law_class_of) (defBody st_law_class_of) (defScope st_law_class_of) .none kV30 dc30 pm30 an30 cd30 ct30), sl30⟩)
    (c30 : PySem.W.codeIn K cd30 "_law_class_of" = true)
    (k30 : PySem.W.keepIn K (.ref f30) = true)
    (a31 : PySem.W.nsIn K mainGlobals "law" = some (some (.ref f31)))
    (l31 : K.lookup f31 = some ⟨oc31, od31, .func (PySem.W.fnOf "law" "law" (defArgs stlaw) (defBody stlaw) (defScope stlaw) .none kV31 dc31 pm31 an31 cd31 ct31), sl31⟩)
    (c31 : PySem.W.codeIn K cd31 "law" = true)
    (k31 : PySem.W.keepIn K (.ref f31) = true)
    (aM : PySem.W.nsIn K mainGlobals "Malformed" = some (some (.ref CM)))
    (aR : PySem.W.nsIn K mainGlobals "Refused" = some (some (.ref CR)))
    (xM : PySem.W.excIn K CM [.type "ValueError", .type "Exception", .type "BaseException", .type "object"] "ValueError.__new__" = true)
    (xR : K.lookup CR = some (excClassObj nmR qR CR NR bsR [.ref CF, .type "ValueError", .type "Exception", .type "BaseException", .type "object"] true snR subR abR colR ddR mR0 mR1 mR2 mR3 mR5 "ValueError.__new__"))
    (kM : PySem.W.keepIn K (.ref CM) = true)
    (kR : PySem.W.keepIn K (.ref CR) = true)
    (bM : PySem.W.subIn K (.ref CM) (.type "BaseException") = some true)
    (bR : PySem.W.subIn K (.ref CR) (.type "BaseException") = some true)
    (tM : PySem.W.typeIn K (.ref CM) = some (.type "type"))
    (tR : PySem.W.typeIn K (.ref CR) = some (.type "type"))
    (iM : PySem.W.isClsIn K CM = true)
    (iR : PySem.W.isClsIn K CR = true)
    (sMM : PySem.W.subIn K (.ref CM) (.ref CM) = some true)
    (sMR : PySem.W.subIn K (.ref CM) (.ref CR) = some false)
    (sRM : PySem.W.subIn K (.ref CR) (.ref CM) = some false)
    (sRR : PySem.W.subIn K (.ref CR) (.ref CR) = some true)
    (gaR : PySem.W.findIn K (.ref CR) "__getattribute__" = some (some (.builtin "BaseException.__getattribute__")))
    (ggR : PySem.W.findIn K (.ref CR) "__getattr__" = some none)
    (hdR : PySem.W.hasDictIn K CR = true)
    (saR : PySem.W.findIn K (.ref CR) "__setattr__" = some (some (.builtin "object.__setattr__")))
    (nnR : PySem.W.findIn K (.ref CR) "reason" = some none)
    (inR : PySem.W.findIn K (.ref CR) "__init__" = some (some (.ref fR)))
    (tfnR : PySem.W.typeIn K (.ref fR) = some (.type "function"))
    (suR : PySem.W.ks_superIn K CR CR "__init__" = some (some (.builtin "ValueError.__init__")))
    (mroR : PySem.W.mroIn K CR (.ref CR) = some true)
    (sveR : PySem.W.subIn K (.ref CR) (.type "ValueError") = some true)
    (anyR : PySem.W.nsIn K cStatics "thirdparty.any" = some none)
    (supR : PySem.W.nsIn K mainGlobals "super" = some none)
    (lR : K.lookup fR = some ⟨ocR, odR, .func (PySem.W.ksFn "__init__" qn (PySem.RefX.rA ⟨8, 17, 8, 21⟩ ⟨8, 23, 8, 29⟩) (PySem.RefX.rB ⟨9, 8, 9, 13⟩ ⟨9, 8, 9, 15⟩ ⟨9, 8, 9, 24⟩ ⟨9, 25, 9, 31⟩ ⟨9, 8, 9, 32⟩ ⟨9, 8, 9, 32⟩ ⟨10, 8, 10, 12⟩ ⟨10, 8, 10, 19⟩ ⟨10, 22, 10, 28⟩ ⟨10, 8, 10, 28⟩) PySem.RefX.rS .none .none dcR pmR anR (.ref cda) ctR cc), oslR⟩)
    (cR : PySem.W.codeIn K (.ref cda) qn = true)
    (lcR : K.lookup cda = some ⟨cclR, cddR, .fields vsR, ccsR⟩)
    (vR : vsR[2]? = some (.str fileR tfR))
    (fiR : ((PySem.Challenge.pw_germroads_k01_whole_lots_of_classes.main.file : Str) == fileR) = true)
    (lccR : K.lookup cc = some ⟨clR, cldR, .cell (some (.ref CR)), cslR⟩)
    : ∃ fd : FuncData, (∀ (s : Shared) (v : Value), BindsTo s fd ⟨[v], []⟩ [("script", v)]) ∧ ∀ base : Heap, K.In base → base.Ns mainGlobals mg → FnOk PySem.Challenge.pw_germroads_k01_whole_lots_of_classes w K mg base (L2.CX PySem.Challenge.pw_germroads_k01_whole_lots_of_classes w) 11 fa fd ["script"] (spLaw K 63) := by
  have e := hfa.symm.trans (PySem.W.mg_of X G a31)
  cases e
  have B : Bn mg := ⟨PySem.W.mg_none_of X G z_abs, PySem.W.mg_none_of X G z_all, PySem.W.mg_none_of X G z_any, PySem.W.mg_none_of X G z_bool, PySem.W.mg_none_of X G z_int, PySem.W.mg_none_of X G z_isinstance, PySem.W.mg_none_of X G z_len, PySem.W.mg_none_of X G z_list, PySem.W.mg_none_of X G z_range, PySem.W.mg_none_of X G z_str, PySem.W.mg_none_of X G z_sum, PySem.W.mg_none_of X G z_tuple, PySem.W.mg_none_of X G z_zip⟩
  have C : Cs ⟨K, mg⟩ := ⟨.of_int (PySem.W.mg_of X G y_MOST_CONDUCTOR), .of_int (PySem.W.mg_of X G y_MOST_FIRST), .of_int (PySem.W.mg_of X G y_MOST_ITEM)⟩
  have RT : PySem.RefX.RefTxt PySem.Challenge.pw_germroads_k01_whole_lots_of_classes K mg "Refused" CR fR :=
    { gC := PySem.W.mg_of X G aR, cls := ⟨nmR, qR, NR, bsR, _, snR, subR, abR, colR, ddR, mR0, mR1, mR2, mR3, mR5, xR, by rfl⟩, sup := suR, sub := mroR, sVE := sveR, any := anyR, gS := PySem.W.mg_none_of X G supR, sa := saR, noN := nnR, iC := inR, tC := tfnR, kC := kR, exC := bR, tyC := tR, htop := by rfl,
      fn := ⟨_, _, _, _, _, _, _, _, _, _, _, _, _, _, _, _, _, _, _, _, _, _, lR, by rfl, cR, ⟨_, _, _, _, _, _, lcR, vR, fiR⟩, _, _, _, lccR⟩ }
  have T : Errs PySem.Challenge.pw_germroads_k01_whole_lots_of_classes K mg CM CR fR := ⟨RT, PySem.W.mg_of X G aM, xM, kM, bM, tM, iM, iR, sMM, sMR, sRM, sRR, ⟨gaR, ggR, bR, hdR⟩⟩
  have F0 := fun_mk (st := stis_integer) l0 c0 k0
  have b0 := F0.binds (ps := ["value"]) fun _ _ _ _ _ _ us hl => match us, hl with | [_], _ => rfl
  have F1 := fun_mk (st := stgreatest_common) l1 c1 k1
  have b1 := F1.binds (ps := ["a", "b"]) fun _ _ _ _ _ _ us hl => match us, hl with | [_, _], _ => rfl
  have F2 := fun_mk (st := ststeps_of) l2 c2 k2
  have b2 := F2.binds (ps := ["c"]) fun _ _ _ _ _ _ us hl => match us, hl with | [_], _ => rfl
  have F3 := fun_mk (st := stconductor_of) l3 c3 k3
  have b3 := F3.binds (ps := ["c"]) fun _ _ _ _ _ _ us hl => match us, hl with | [_], _ => rfl
  have F4 := fun_mk (st := stare_integers) l4 c4 k4
  have b4 := F4.binds (ps := ["value"]) fun _ _ _ _ _ _ us hl => match us, hl with | [_], _ => rfl
  have F5 := fun_mk (st := stis_class) l5 c5 k5
  have b5 := F5.binds (ps := ["value"]) fun _ _ _ _ _ _ us hl => match us, hl with | [_], _ => rfl
  have F6 := fun_mk (st := stcheck_class) l6 c6 k6
  have b6 := F6.binds (ps := ["c"]) fun _ _ _ _ _ _ us hl => match us, hl with | [_], _ => rfl
  have F7 := fun_mk (st := stlot_from) l7 c7 k7
  have b7 := F7.binds (ps := ["c"]) fun _ _ _ _ _ _ us hl => match us, hl with | [_], _ => rfl
  have F8 := fun_mk (st := stlot_of_class) l8 c8 k8
  have b8 := F8.binds (ps := ["c"]) fun _ _ _ _ _ _ us hl => match us, hl with | [_], _ => rfl
  have F9 := fun_mk (st := stis_generators) l9 c9 k9
  have b9 := F9.binds (ps := ["value"]) fun _ _ _ _ _ _ us hl => match us, hl with | [_], _ => rfl
  have F10 := fun_mk (st := stbroken_generator) l10 c10 k10
  have b10 := F10.binds (ps := ["lot"]) fun _ _ _ _ _ _ us hl => match us, hl with | [_], _ => rfl
  have F11 := fun_mk (st := stclass_of_lot) l11 c11 k11
  have b11 := F11.binds (ps := ["lot"]) fun _ _ _ _ _ _ us hl => match us, hl with | [_], _ => rfl
  have F12 := fun_mk (st := st_law_state) l12 c12 k12
  have b12 := F12.binds (ps := ["script"]) fun _ _ _ _ _ _ us hl => match us, hl with | [_], _ => rfl
  have F13 := fun_mk (st := st_law_take) l13 c13 k13
  have b13 := F13.binds (ps := ["state", "m"]) fun _ _ _ _ _ _ us hl => match us, hl with | [_, _], _ => rfl
  have F14 := fun_mk (st := st_law_odd) l14 c14 k14
  have b14 := F14.binds (ps := ["value"]) fun _ _ _ _ _ _ us hl => match us, hl with | [_], _ => rfl
  have F15 := fun_mk (st := st_law_honest) l15 c15 k15
  have b15 := F15.binds (ps := ["value"]) fun _ _ _ _ _ _ us hl => match us, hl with | [_], _ => rfl
  have F16 := fun_mk (st := st_law_is_whole) l16 c16 k16
  have b16 := F16.binds (ps := ["value"]) fun _ _ _ _ _ _ us hl => match us, hl with | [_], _ => rfl
  have F17 := fun_mk (st := st_law_same) l17 c17 k17
  have b17 := F17.binds (ps := ["one", "two"]) fun _ _ _ _ _ _ us hl => match us, hl with | [_, _], _ => rfl
  have F18 := fun_mk (st := st_law_common) l18 c18 k18
  have b18 := F18.binds (ps := ["a", "b"]) fun _ _ _ _ _ _ us hl => match us, hl with | [_, _], _ => rfl
  have F19 := fun_mk (st := st_law_steps) l19 c19 k19
  have b19 := F19.binds (ps := ["c"]) fun _ _ _ _ _ _ us hl => match us, hl with | [_], _ => rfl
  have F20 := fun_mk (st := st_law_conductor) l20 c20 k20
  have b20 := F20.binds (ps := ["c"]) fun _ _ _ _ _ _ us hl => match us, hl with | [_], _ => rfl
  have F21 := fun_mk (st := st_law_is_class) l21 c21 k21
  have b21 := F21.binds (ps := ["value"]) fun _ _ _ _ _ _ us hl => match us, hl with | [_], _ => rfl
  have F22 := fun_mk (st := st_law_from_pairs) l22 c22 k22
  have b22 := F22.binds (ps := ["pairs"]) fun _ _ _ _ _ _ us hl => match us, hl with | [_], _ => rfl
  have F23 := fun_mk (st := st_law_drawn_pairs) l23 c23 k23
  have b23 := F23.binds (ps := ["state", "most"]) fun _ _ _ _ _ _ us hl => match us, hl with | [_, _], _ => rfl
  have F24 := fun_mk (st := st_law_drawn_class) l24 c24 k24
  have b24 := F24.binds (ps := ["state", "most"]) fun _ _ _ _ _ _ us hl => match us, hl with | [_, _], _ => rfl
  have F25 := fun_mk (st := st_law_lot) l25 c25 k25
  have b25 := F25.binds (ps := ["c"]) fun _ _ _ _ _ _ us hl => match us, hl with | [_], _ => rfl
  have F26 := fun_mk (st := st_law_sums) l26 c26 k26
  have b26 := F26.binds (ps := ["lot", "most"]) fun _ _ _ _ _ _ us hl => match us, hl with | [_, _], _ => rfl
  have F27 := fun_mk (st := st_law_told) l27 c27 k27
  have b27 := F27.binds (ps := ["which", "value"]) fun _ _ _ _ _ _ us hl => match us, hl with | [_, _], _ => rfl
  have F28 := fun_mk (st := st_law_is_row) l28 c28 k28
  have b28 := F28.binds (ps := ["value"]) fun _ _ _ _ _ _ us hl => match us, hl with | [_], _ => rfl
  have F29 := fun_mk (st := st_law_broken) l29 c29 k29
  have b29 := F29.binds (ps := ["lot"]) fun _ _ _ _ _ _ us hl => match us, hl with | [_], _ => rfl
  have F30 := fun_mk (st := st_law_class_of) l30 c30 k30
  have b30 := F30.binds (ps := ["lot"]) fun _ _ _ _ _ _ us hl => match us, hl with | [_], _ => rfl
  have F31 := fun_mk (st := stlaw) l31 c31 k31
  have b31 := F31.binds (ps := ["script"]) fun _ _ _ _ _ _ us hl => match us, hl with | [_], _ => rfl
  refine ⟨PySem.W.fnOf "law" "law" (defArgs stlaw) (defBody stlaw) (defScope stlaw) .none kV31 dc31 pm31 an31 cd31 ct31, fun s v => .of_eq rfl, fun base _ _ => ?_⟩
  have cis_integer : CalD PySem.Challenge.pw_germroads_k01_whole_lots_of_classes w K mg base 1 "is_integer" Fis_integer := ⟨f0, _, _, PySem.W.mg_of X G a0, k0, b0, okis_integer F0 B⟩
  have cgreatest_common : CalD PySem.Challenge.pw_germroads_k01_whole_lots_of_classes w K mg base 1 "greatest_common" Fgreatest_common := ⟨f1, _, _, PySem.W.mg_of X G a1, k1, b1, okgreatest_common F1 B⟩
  have csteps_of : CalD PySem.Challenge.pw_germroads_k01_whole_lots_of_classes w K mg base 2 "steps_of" Fsteps_of := ⟨f2, _, _, PySem.W.mg_of X G a2, k2, b2, oksteps_of F2 cgreatest_common⟩
  have cconductor_of : CalD PySem.Challenge.pw_germroads_k01_whole_lots_of_classes w K mg base 3 "conductor_of" Fconductor_of := ⟨f3, _, _, PySem.W.mg_of X G a3, k3, b3, okconductor_of F3 B csteps_of⟩
  have care_integers : CalD PySem.Challenge.pw_germroads_k01_whole_lots_of_classes w K mg base 2 "are_integers" Fare_integers := ⟨f4, _, _, PySem.W.mg_of X G a4, k4, b4, okare_integers F4 B cis_integer⟩
  have cis_class : CalD PySem.Challenge.pw_germroads_k01_whole_lots_of_classes w K mg base 4 "is_class" Fis_class := ⟨f5, _, _, PySem.W.mg_of X G a5, k5, b5, okis_class F5 B C care_integers cconductor_of csteps_of⟩
  have ccheck_class : CalD PySem.Challenge.pw_germroads_k01_whole_lots_of_classes w K mg base 5 "check_class" Fcheck_class := ⟨f6, _, _, PySem.W.mg_of X G a6, k6, b6, okcheck_class F6 T cis_class⟩
  have clot_from : CalD PySem.Challenge.pw_germroads_k01_whole_lots_of_classes w K mg base 3 "lot_from" Flot_from := ⟨f7, _, _, PySem.W.mg_of X G a7, k7, b7, oklot_from F7 B csteps_of⟩
  have clot_of_class : CalD PySem.Challenge.pw_germroads_k01_whole_lots_of_classes w K mg base 6 "lot_of_class" Flot_of_class := ⟨f8, _, _, PySem.W.mg_of X G a8, k8, b8, oklot_of_class F8 B ccheck_class clot_from⟩
  have cis_generators : CalD PySem.Challenge.pw_germroads_k01_whole_lots_of_classes w K mg base 3 "is_generators" Fis_generators := ⟨f9, _, _, PySem.W.mg_of X G a9, k9, b9, okis_generators F9 B care_integers csteps_of⟩
  have cbroken_generator : CalD PySem.Challenge.pw_germroads_k01_whole_lots_of_classes w K mg base 4 "broken_generator" Fbroken_generator := ⟨f10, _, _, PySem.W.mg_of X G a10, k10, b10, okbroken_generator F10 B T cis_generators csteps_of⟩
  have cclass_of_lot : CalD PySem.Challenge.pw_germroads_k01_whole_lots_of_classes w K mg base 5 "class_of_lot" Fclass_of_lot := ⟨f11, _, _, PySem.W.mg_of X G a11, k11, b11, okclass_of_lot F11 B T cbroken_generator cis_class cis_generators csteps_of⟩
  have c_law_state : CalD PySem.Challenge.pw_germroads_k01_whole_lots_of_classes w K mg base 1 "_law_state" F_law_state := ⟨f12, _, _, PySem.W.mg_of X G a12, k12, b12, ok_law_state F12 B⟩
  have c_law_take : CalD PySem.Challenge.pw_germroads_k01_whole_lots_of_classes w K mg base 1 "_law_take" F_law_take := ⟨f13, _, _, PySem.W.mg_of X G a13, k13, b13, ok_law_take F13 B⟩
  have c_law_odd : CalD PySem.Challenge.pw_germroads_k01_whole_lots_of_classes w K mg base 8 "_law_odd" (F_law_odd 8) := ⟨f14, _, _, PySem.W.mg_of X G a14, k14, b14, ok_law_odd F14 B (PySem.W.mg_of X G a14) k14 b14 8⟩
  have c_law_honest : CalD PySem.Challenge.pw_germroads_k01_whole_lots_of_classes w K mg base 9 "_law_honest" F_law_honest := ⟨f15, _, _, PySem.W.mg_of X G a15, k15, b15, ok_law_honest F15 c_law_odd⟩
  have c_law_is_whole : CalD PySem.Challenge.pw_germroads_k01_whole_lots_of_classes w K mg base 1 "_law_is_whole" F_law_is_whole := ⟨f16, _, _, PySem.W.mg_of X G a16, k16, b16, ok_law_is_whole F16 B⟩
  have c_law_same : CalD PySem.Challenge.pw_germroads_k01_whole_lots_of_classes w K mg base 9 "_law_same" (F_law_same 8) := ⟨f17, _, _, PySem.W.mg_of X G a17, k17, b17, ok_law_same F17 B c_law_is_whole (PySem.W.mg_of X G a17) k17 b17 8⟩
  have c_law_common : CalD PySem.Challenge.pw_germroads_k01_whole_lots_of_classes w K mg base 1 "_law_common" F_law_common := ⟨f18, _, _, PySem.W.mg_of X G a18, k18, b18, ok_law_common F18 B⟩
  have c_law_steps : CalD PySem.Challenge.pw_germroads_k01_whole_lots_of_classes w K mg base 2 "_law_steps" F_law_steps := ⟨f19, _, _, PySem.W.mg_of X G a19, k19, b19, ok_law_steps F19 c_law_common⟩
  have c_law_conductor : CalD PySem.Challenge.pw_germroads_k01_whole_lots_of_classes w K mg base 3 "_law_conductor" F_law_conductor := ⟨f20, _, _, PySem.W.mg_of X G a20, k20, b20, ok_law_conductor F20 B c_law_steps⟩
  have c_law_is_class : CalD PySem.Challenge.pw_germroads_k01_whole_lots_of_classes w K mg base 4 "_law_is_class" F_law_is_class := ⟨f21, _, _, PySem.W.mg_of X G a21, k21, b21, ok_law_is_class F21 B c_law_conductor c_law_is_whole c_law_steps⟩
  have c_law_from_pairs : CalD PySem.Challenge.pw_germroads_k01_whole_lots_of_classes w K mg base 1 "_law_from_pairs" F_law_from_pairs := ⟨f22, _, _, PySem.W.mg_of X G a22, k22, b22, ok_law_from_pairs F22 B⟩
  have c_law_drawn_pairs : CalD PySem.Challenge.pw_germroads_k01_whole_lots_of_classes w K mg base 2 "_law_drawn_pairs" F_law_drawn_pairs := ⟨f23, _, _, PySem.W.mg_of X G a23, k23, b23, ok_law_drawn_pairs F23 B c_law_common c_law_take⟩
  have c_law_drawn_class : CalD PySem.Challenge.pw_germroads_k01_whole_lots_of_classes w K mg base 5 "_law_drawn_class" F_law_drawn_class := ⟨f24, _, _, PySem.W.mg_of X G a24, k24, b24, ok_law_drawn_class F24 c_law_drawn_pairs c_law_from_pairs c_law_is_class⟩
  have c_law_lot : CalD PySem.Challenge.pw_germroads_k01_whole_lots_of_classes w K mg base 3 "_law_lot" F_law_lot := ⟨f25, _, _, PySem.W.mg_of X G a25, k25, b25, ok_law_lot F25 B c_law_steps⟩
  have c_law_sums : CalDK PySem.Challenge.pw_germroads_k01_whole_lots_of_classes w K mg base 1 "_law_sums" F_law_sums := ⟨f26, _, _, PySem.W.mg_of X G a26, k26, b26, ok_law_sums F26 B⟩
  have c_law_told : CalD PySem.Challenge.pw_germroads_k01_whole_lots_of_classes w K mg base 10 "_law_told" F_law_told := ⟨f27, _, _, PySem.W.mg_of X G a27, k27, b27, ok_law_told F27 T c_law_honest cbroken_generator cclass_of_lot clot_of_class⟩
  have c_law_is_row : CalD PySem.Challenge.pw_germroads_k01_whole_lots_of_classes w K mg base 3 "_law_is_row" F_law_is_row := ⟨f28, _, _, PySem.W.mg_of X G a28, k28, b28, ok_law_is_row F28 B c_law_is_whole c_law_steps⟩
  have c_law_broken : CalD PySem.Challenge.pw_germroads_k01_whole_lots_of_classes w K mg base 3 "_law_broken" F_law_broken := ⟨f29, _, _, PySem.W.mg_of X G a29, k29, b29, ok_law_broken F29 B c_law_steps⟩
  have c_law_class_of : CalD PySem.Challenge.pw_germroads_k01_whole_lots_of_classes w K mg base 3 "_law_class_of" F_law_class_of := ⟨f30, _, _, PySem.W.mg_of X G a30, k30, b30, ok_law_class_of F30 B c_law_steps⟩
  have oL : FnOk PySem.Challenge.pw_germroads_k01_whole_lots_of_classes w K mg base (L2.CX PySem.Challenge.pw_germroads_k01_whole_lots_of_classes w) 11 _ _ _ _ := oklaw F31 B c_law_broken c_law_class_of c_law_conductor c_law_drawn_class c_law_is_class c_law_is_row c_law_lot c_law_same c_law_state c_law_sums c_law_take c_law_told
  exact oL.imp (law_sp law_true)
end Mp
open PySem PySem.W PyProof.Rows
set_option maxHeartbeats 0 in
theorem PySem.Challenge.cw_germroads_k01_whole_lots_of_classes_holds : PySem.Challenge.rw_germroads_k01_whole_lots_of_classes.Holds := by
  w_on; o_law; k_head; (case hw => w_witness2)
  k_fill
  refine L2.walk_of (l := PySem.Challenge.rw_germroads_k01_whole_lots_of_classes) (n := 63) (k := 11) (x := "script") (CX := fun w => L2.CX PySem.Challenge.pw_germroads_k01_whole_lots_of_classes w) (sp := fun w => Mp.spLaw _ 63) rfl (by decide) rfl ⟨rfl, by decide, by decide⟩ (fun w h Y => PySem.W.kIn_of Y) ?F (fun _ _ a ns hl hO hS => ⟨a, ns, rfl, hO, hS, hl, fun _ => rfl⟩) (fun _ _ _ _ _ h => Mp.cx_no _ _ _ _ h)
  case F =>
    intro w mg fa h KX G hmg
    refine' Mp.all_mk KX G hmg ?z_abs ?z_all ?z_any ?z_bool ?z_int ?z_isinstance ?z_len ?z_list ?z_range ?z_str ?z_sum ?z_tuple ?z_zip ?y_MOST_CONDUCTOR ?y_MOST_FIRST ?y_MOST_ITEM ?a0 ?l0 ?c0 ?k0 ?a1 ?l1 ?c1 ?k1 ?a2 ?l2 ?c2 ?k2 ?a3 ?l3 ?c3 ?k3 ?a4 ?l4 ?c4 ?k4 ?a5 ?l5 ?c5 ?k5 ?a6 ?l6 ?c6 ?k6 ?a7 ?l7 ?c7 ?k7 ?a8 ?l8 ?c8 ?k8 ?a9 ?l9 ?c9 ?k9 ?a10 ?l10 ?c10 ?k10 ?a11 ?l11 ?c11 ?k11 ?a12 ?l12 ?c12 ?k12 ?a13 ?l13 ?c13 ?k13 ?a14 ?l14 ?c14 ?k14 ?a15 ?l15 ?c15 ?k15 ?a16 ?l16 ?c16 ?k16 ?a17 ?l17 ?c17 ?k17 ?a18 ?l18 ?c18 ?k18 ?a19 ?l19 ?c19 ?k19 ?a20 ?l20 ?c20 ?k20 ?a21 ?l21 ?c21 ?k21 ?a22 ?l22 ?c22 ?k22 ?a23 ?l23 ?c23 ?k23 ?a24 ?l24 ?c24 ?k24 ?a25 ?l25 ?c25 ?k25 ?a26 ?l26 ?c26 ?k26 ?a27 ?l27 ?c27 ?k27 ?a28 ?l28 ?c28 ?k28 ?a29 ?l29 ?c29 ?k29 ?a30 ?l30 ?c30 ?k30 ?a31 ?l31 ?c31 ?k31 ?aM ?aR ?xM ?xR ?kM ?kR ?bM ?bR ?tM ?tR ?iM ?iR ?sMM ?sMR ?sRM ?sRR ?gaR ?ggR ?hdR ?saR ?nnR ?inR ?tfnR ?suR ?mroR ?sveR ?anyR ?supR ?lR ?cR ?lcR ?vR ?fiR ?lccR
    (case z_abs => k_is)
    (case z_all => k_is)
    (case z_any => k_is)
    (case z_bool => k_is)
    (case z_int => k_is)
    (case z_isinstance => k_is)
    (case z_len => k_is)
    (case z_list => k_is)
    (case z_range => k_is)
    (case z_str => k_is)
    (case z_sum => k_is)
    (case z_tuple => k_is)
    (case z_zip => k_is)
    (case y_MOST_CONDUCTOR => k_is)
    (case y_MOST_FIRST => k_is)
    (case y_MOST_ITEM => k_is)
    (case a0 => k_is)
    (case l0 => k_is)
    (case c0 => k_is)
    (case k0 => k_is)
    (case a1 => k_is)
    (case l1 => k_is)
    (case c1 => k_is)
    (case k1 => k_is)
    (case a2 => k_is)
    (case l2 => k_is)
    (case c2 => k_is)
    (case k2 => k_is)
    (case a3 => k_is)
    (case l3 => k_is)
    (case c3 => k_is)
    (case k3 => k_is)
    (case a4 => k_is)
    (case l4 => k_is)
    (case c4 => k_is)
    (case k4 => k_is)
    (case a5 => k_is)
    (case l5 => k_is)
    (case c5 => k_is)
    (case k5 => k_is)
    (case a6 => k_is)
    (case l6 => k_is)
    (case c6 => k_is)
    (case k6 => k_is)
    (case a7 => k_is)
    (case l7 => k_is)
    (case c7 => k_is)
    (case k7 => k_is)
    (case a8 => k_is)
    (case l8 => k_is)
    (case c8 => k_is)
    (case k8 => k_is)
    (case a9 => k_is)
    (case l9 => k_is)
    (case c9 => k_is)
    (case k9 => k_is)
    (case a10 => k_is)
    (case l10 => k_is)
    (case c10 => k_is)
    (case k10 => k_is)
    (case a11 => k_is)
    (case l11 => k_is)
    (case c11 => k_is)
    (case k11 => k_is)
    (case a12 => k_is)
    (case l12 => k_is)
    (case c12 => k_is)
    (case k12 => k_is)
    (case a13 => k_is)
    (case l13 => k_is)
    (case c13 => k_is)
    (case k13 => k_is)
    (case a14 => k_is)
    (case l14 => k_is)
    (case c14 => k_is)
    (case k14 => k_is)
    (case a15 => k_is)
    (case l15 => k_is)
    (case c15 => k_is)
    (case k15 => k_is)
    (case a16 => k_is)
    (case l16 => k_is)
    (case c16 => k_is)
    (case k16 => k_is)
    (case a17 => k_is)
    (case l17 => k_is)
    (case c17 => k_is)
    (case k17 => k_is)
    (case a18 => k_is)
    (case l18 => k_is)
    (case c18 => k_is)
    (case k18 => k_is)
    (case a19 => k_is)
    (case l19 => k_is)
    (case c19 => k_is)
    (case k19 => k_is)
    (case a20 => k_is)
    (case l20 => k_is)
    (case c20 => k_is)
    (case k20 => k_is)
    (case a21 => k_is)
    (case l21 => k_is)
    (case c21 => k_is)
    (case k21 => k_is)
    (case a22 => k_is)
    (case l22 => k_is)
    (case c22 => k_is)
    (case k22 => k_is)
    (case a23 => k_is)
    (case l23 => k_is)
    (case c23 => k_is)
    (case k23 => k_is)
    (case a24 => k_is)
    (case l24 => k_is)
    (case c24 => k_is)
    (case k24 => k_is)
    (case a25 => k_is)
    (case l25 => k_is)
    (case c25 => k_is)
    (case k25 => k_is)
    (case a26 => k_is)
    (case l26 => k_is)
    (case c26 => k_is)
    (case k26 => k_is)
    (case a27 => k_is)
    (case l27 => k_is)
    (case c27 => k_is)
    (case k27 => k_is)
    (case a28 => k_is)
    (case l28 => k_is)
    (case c28 => k_is)
    (case k28 => k_is)
    (case a29 => k_is)
    (case l29 => k_is)
    (case c29 => k_is)
    (case k29 => k_is)
    (case a30 => k_is)
    (case l30 => k_is)
    (case c30 => k_is)
    (case k30 => k_is)
    (case a31 => k_is)
    (case l31 => k_is)
    (case c31 => k_is)
    (case k31 => k_is)
    (case aM => k_is)
    (case aR => k_is)
    (case xM => k_exc)
    (case xR => k_is)
    (case kM => k_is)
    (case kR => k_is)
    (case bM => k_is)
    (case bR => k_is)
    (case tM => k_is)
    (case tR => k_is)
    (case iM => k_is)
    (case iR => k_is)
    (case sMM => first | rfl | k_is)
    (case sMR => first | rfl | k_is)
    (case sRM => first | rfl | k_is)
    (case sRR => first | rfl | k_is)
    (case gaR => k_is)
    (case ggR => k_is)
    (case hdR => k_is)
    (case saR => k_is)
    (case nnR => k_is)
    (case inR => k_is)
    (case tfnR => k_is)
    (case suR => ks_is)
    (case mroR => k_is)
    (case sveR => k_is)
    (case anyR => k_is)
    (case supR => k_is)
    (case lR => k_is)
    (case cR => k_is)
    (case lcR => k_is)
    (case vR => rfl)
    (case fiR => first | rfl | decide +kernel)
    (case lccR => k_is)
